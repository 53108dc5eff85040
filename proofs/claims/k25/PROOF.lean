import PyProof.Rows.All
import Wide.All
import OpenK.AllK
import Wide.FinOn
import HandS.ForMost
import HandS.IsInst
import HandS.Flow
import HandS.TupAny
import HandS.TupMul
import HandS.Deep
import HandS.Zip
import HandS.Wide
import KE.KDictDisplayH
import HandS.Style
import PyProof.NeData
import PyProof.StrLawsRepr
import PyProof.Rows.StrJoinMade
import PyProof.ReprRoads
import PyProof.CallFns
import PyProof.Rows.StrDigitsNeg
import KE.GoesEnum
import KE.GoesZip
import HandS.StrMore
import HandS.Small
import HandS.DictComp
import KE.KDictCopyH
import HandS.TupLen
import HandS.SetKeys
import HandS.Conv
import HandS.NoneIn
import PySem.Challenge.RW_sortedshelves_k25_whole_machines_as_sets
set_option Elab.async false
set_option linter.all false
set_option maxRecDepth 100000
set_option maxHeartbeats 4000000
section
/-! PD1: deep values over the hand layer. -/
namespace PD
open PySem PySem.Spec PyProof.Rows L2

/-- deep values: tuples, frozen lists and dicts are plain data; what may change is a reference; the deck of draws is one opaque value -/
inductive D where
  | non | bl (b : Bool) | int (i : Int) | str (x : Str)
  | tup (xs : List D) | lst (xs : List D) | dic (kvs : List (D × D))
  | ref (a : Addr) | ty (n : String) | deck

/-- what may change -/
inductive OD where
  | lst (xs : List D) | dic (kvs : List (D × D)) | ins (C : Addr) (fs : List (Str × D)) | dct (w : World) (kvs : List (D × D))

/-- the deep heap: tracked objects, a bound on the draws so far, where the deck stands -/
structure HD where
  hp : Addr → Option OD
  c : Nat
  dk : Option (Addr × Addr)
def HD.set (S : HD) (a : Addr) (o : OD) : HD := { S with hp := fun b => if b = a then some o else S.hp b }
def HD.del (S : HD) (a : Addr) : HD := { S with hp := fun b => if b = a then none else S.hp b }
def HD.tick (S : HD) (n : Nat) : HD := { S with c := S.c + n }
@[simp] theorem HD.set_same {S : HD} {a : Addr} {o : OD} : (S.set a o).hp a = some o := by simp [HD.set]
theorem HD.set_ne {S : HD} {a b : Addr} {o : OD} (h : b ≠ a) : (S.set a o).hp b = S.hp b := by simp [HD.set, h]
@[simp] theorem HD.set_set {S : HD} {a : Addr} {o u : OD} : (S.set a o).set a u = S.set a u := by
  unfold HD.set; congr 1; funext b; by_cases h : b = a <;> simp [h]
@[simp] theorem HD.set_dk {S : HD} {a : Addr} {o : OD} : (S.set a o).dk = S.dk := rfl
@[simp] theorem HD.set_c {S : HD} {a : Addr} {o : OD} : (S.set a o).c = S.c := rfl
@[simp] theorem HD.tick_hp {S : HD} {n : Nat} : (S.tick n).hp = S.hp := rfl
@[simp] theorem HD.tick_dk {S : HD} {n : Nat} : (S.tick n).dk = S.dk := rfl
@[simp] theorem HD.tick_c {S : HD} {n : Nat} : (S.tick n).c = S.c + n := rfl

def Dk (S : HD) (a : Addr) : Prop := ∃ p, S.dk = some p ∧ (a = p.1 ∨ a = p.2)
/-- a may be named by frozen data -/
def Fz (G : Addr → Prop) (S : HD) (a : Addr) : Prop := S.hp a = none ∧ ¬ Dk S a ∧ ¬ G a

/-- from one state to a later one: what was not tracked stands as it stood -/
structure FL (S : HD) (H : Hp) (S' : HD) (H' : Hp) : Prop where
  kp : ∀ a o, H a = some o → S.hp a = none → ¬ Dk S a → S'.hp a = none ∧ ¬ Dk S' a ∧ H' a = some o
  dk : ∀ p, S.dk = some p → S'.dk = some p
theorem FL.refl (S : HD) (H : Hp) : FL S H S H := ⟨fun _ _ h n d => ⟨n, d, h⟩, fun _ h => h⟩
theorem FL.trans {S S1 S2 : HD} {H H1 H2 : Hp} (a : FL S H S1 H1) (b : FL S1 H1 S2 H2) : FL S H S2 H2 :=
  ⟨fun c o h n d => let ⟨n1, d1, h1⟩ := a.kp c o h n d; b.kp c o h1 n1 d1, fun p h => b.dk p (a.dk p h)⟩

def KT (K : PySem.W.Frag) (a : Addr) (xs : List V) : Prop :=
  ∃ (o : Obj) (its : Array Value) (n : Nat), K.lookup a = some o ∧ o.cls = .type "tuple" ∧ o.data = .seq its n ∧ its.size ≤ sizeLine ∧ Vals xs its.toList
def KL (K : PySem.W.Frag) (a : Addr) (xs : List V) : Prop :=
  ∃ (o : Obj) (its : Array Value) (n : Nat), K.lookup a = some o ∧ o.cls = .type "list" ∧ o.dict = none ∧ o.data = .seq its n ∧ its.size ≤ sizeLine ∧ Vals xs its.toList

variable (K : PySem.W.Frag) (G : Addr → Prop) (S : HD) (H : Hp) in
def FzT (a : Addr) (xs : List V) : Prop := (Fz G S a ∧ Rd H a (.tup xs)) ∨ KT K a xs
variable (K : PySem.W.Frag) (G : Addr → Prop) (S : HD) (H : Hp) in
def FzL (a : Addr) (xs : List V) : Prop := (Fz G S a ∧ Rd H a (.lst xs)) ∨ KL K a xs
variable (G : Addr → Prop) (S : HD) (H : Hp) in
def FzD (a : Addr) (kvs : List (Key × V)) : Prop := Fz G S a ∧ Rd H a (.dK kvs)

def kD : Key → D
  | .inl i => .int i
  | .inr x => .str x

section
variable (K : PySem.W.Frag) (G : Addr → Prop) (S : HD) (H : Hp)
mutual
inductive RD : D → V → Prop
  | non : RD .non .non
  | bl (b : Bool) : RD (.bl b) (.bl b)
  | int (i : Int) : RD (.int i) (.int i)
  | str (x : Str) : RD (.str x) (.str x)
  | ty (n : String) : RD (.ty n) (.ty n)
  | ref (a : Addr) : RD (.ref a) (.ref a)
  | tup {a : Addr} {vs : List V} {ds : List D} (h : FzT K G S H a vs) (r : RDs ds vs) : RD (.tup ds) (.ref a)
  | lst {a : Addr} {vs : List V} {ds : List D} (h : FzL K G S H a vs) (r : RDs ds vs) : RD (.lst ds) (.ref a)
  | dic {a : Addr} {kvs : List (Key × V)} {kds : List (D × D)} (h : FzD G S H a kvs) (r : RDk kds kvs) : RD (.dic kds) (.ref a)
  | deck {a b : Addr} (h : S.dk = some (a, b)) : RD .deck (.ref a)
inductive RDs : List D → List V → Prop
  | nil : RDs [] []
  | cons {d : D} {v : V} {ds : List D} {vs : List V} (h : RD d v) (r : RDs ds vs) : RDs (d :: ds) (v :: vs)
inductive RDk : List (D × D) → List (Key × V) → Prop
  | nil : RDk [] []
  | cons {k : Key} {d : D} {v : V} {kds : List (D × D)} {kvs : List (Key × V)} (h : RD d v) (r : RDk kds kvs) : RDk ((kD k, d) :: kds) ((k, v) :: kvs)
end
end

section
variable {K : PySem.W.Frag} {G G' : Addr → Prop} {S S' : HD} {H H' : Hp}

/-- frozen addresses of one state are frozen in another one, with the same objects -/
structure Mv (G : Addr → Prop) (S : HD) (H : Hp) (G' : Addr → Prop) (S' : HD) (H' : Hp) : Prop where
  kp : ∀ a o, H a = some o → Fz G S a → Fz G' S' a ∧ H' a = some o
  dk : ∀ p, S.dk = some p → S'.dk = some p
theorem FL.mv (f : FL S H S' H') : Mv G S H G S' H' :=
  ⟨fun a o h z => let ⟨n, d, e⟩ := f.kp a o h z.1 z.2.1; ⟨⟨n, d, z.2.2⟩, e⟩, f.dk⟩
theorem Mv.rd (m : Mv G S H G' S' H') {a : Addr} {o : HO} (h : Fz G S a ∧ Rd H a o) : Fz G' S' a ∧ Rd H' a o := by
  obtain ⟨z, r⟩ := h
  rcases r with r | ⟨u, r⟩
  · obtain ⟨z', e⟩ := m.kp a _ r z; exact ⟨z', .inl e⟩
  · obtain ⟨z', e⟩ := m.kp a _ r z; exact ⟨z', .inr ⟨u, e⟩⟩
mutual
theorem RD.mv (m : Mv G S H G' S' H') : ∀ {d : D} {v : V}, RD K G S H d v → RD K G' S' H' d v
  | _, _, .non => .non
  | _, _, .bl b => .bl b
  | _, _, .int i => .int i
  | _, _, .str x => .str x
  | _, _, .ty n => .ty n
  | _, _, .ref a => .ref a
  | _, _, .tup h r => .tup (h.imp (fun z => m.rd z) id) (RDs.mv m r)
  | _, _, .lst h r => .lst (h.imp (fun z => m.rd z) id) (RDs.mv m r)
  | _, _, .dic h r => .dic (m.rd h) (RDk.mv m r)
  | _, _, .deck h => .deck (m.dk _ h)
theorem RDs.mv (m : Mv G S H G' S' H') : ∀ {ds : List D} {vs : List V}, RDs K G S H ds vs → RDs K G' S' H' ds vs
  | _, _, .nil => .nil
  | _, _, .cons h r => .cons (RD.mv m h) (RDs.mv m r)
theorem RDk.mv (m : Mv G S H G' S' H') : ∀ {ds : List (D × D)} {vs : List (Key × V)}, RDk K G S H ds vs → RDk K G' S' H' ds vs
  | _, _, .nil => .nil
  | _, _, .cons h r => .cons (RD.mv m h) (RDk.mv m r)
end
theorem RD.fl (f : FL S H S' H') {d : D} {v : V} (r : RD K G S H d v) : RD K G S' H' d v := r.mv f.mv
theorem RDs.fl (f : FL S H S' H') {d : List D} {v : List V} (r : RDs K G S H d v) : RDs K G S' H' d v := r.mv f.mv

theorem RDs.length : ∀ {ds : List D} {vs : List V}, RDs K G S H ds vs → ds.length = vs.length
  | _, _, .nil => rfl
  | _, _, .cons _ r => by simp [RDs.length r]
theorem RDs.append : ∀ {ds es : List D} {vs ws : List V}, RDs K G S H ds vs → RDs K G S H es ws → RDs K G S H (ds ++ es) (vs ++ ws)
  | _, _, _, _, .nil, s => s
  | _, _, _, _, .cons h r, s => .cons h (RDs.append r s)
theorem RDs.get : ∀ {ds : List D} {vs : List V} {i : Nat} {d : D}, RDs K G S H ds vs → ds[i]? = some d → ∃ v, vs[i]? = some v ∧ RD K G S H d v
  | _, _, _, _, .nil, e => by simp at e
  | _, _, 0, _, .cons h _, e => by simp at e; subst e; exact ⟨_, rfl, h⟩
  | _, _, i + 1, d, .cons _ r, e => by
    obtain ⟨u, h1, h2⟩ := RDs.get (i := i) (d := d) r (by simpa using e)
    exact ⟨u, by simpa using h1, h2⟩
theorem RDs.take : ∀ {ds : List D} {vs : List V} (n : Nat), RDs K G S H ds vs → RDs K G S H (ds.take n) (vs.take n)
  | _, _, 0, _ => .nil
  | _, _, _ + 1, .nil => .nil
  | _, _, n + 1, .cons h r => .cons h (RDs.take n r)
theorem RDs.drop : ∀ {ds : List D} {vs : List V} (n : Nat), RDs K G S H ds vs → RDs K G S H (ds.drop n) (vs.drop n)
  | _, _, 0, r => r
  | _, _, _ + 1, .nil => .nil
  | _, _, n + 1, .cons _ r => RDs.drop n r
theorem RDs.set {d : D} {v : V} (h : RD K G S H d v) : ∀ {ds : List D} {vs : List V} (i : Nat), RDs K G S H ds vs → RDs K G S H (ds.set i d) (vs.set i v)
  | _, _, _, .nil => .nil
  | _, _, 0, .cons _ r => .cons h r
  | _, _, i + 1, .cons h' r => .cons h' (RDs.set h i r)
theorem RDs.rev : ∀ {ds : List D} {vs : List V}, RDs K G S H ds vs → RDs K G S H ds.reverse vs.reverse
  | _, _, .nil => .nil
  | _, _, .cons h r => by rw [List.reverse_cons, List.reverse_cons]; exact (RDs.rev r).append (.cons h .nil)
theorem RDs.ints : ∀ (ns : List Int), RDs K G S H (ns.map D.int) (ns.map V.int)
  | [] => .nil
  | n :: ns => .cons (.int n) (RDs.ints ns)
theorem RDs.rep {d : D} {v : V} (h : RD K G S H d v) : ∀ n : Nat, RDs K G S H (List.replicate n d) (List.replicate n v)
  | 0 => .nil
  | n + 1 => .cons h (RDs.rep h n)

/-! a deep value as a key -/
mutual
def nkOf : D → Option NestedKey
  | .non => some .none
  | .bl b => some (.num (if b = true then 1 else 0))
  | .int i => some (.num i)
  | .str x => some (.text x)
  | .tup xs => (nksOf xs).map .tup
  | _ => none
def nksOf : List D → Option (List NestedKey)
  | [] => some []
  | d :: r => (nkOf d).bind fun k => (nksOf r).map (k :: ·)
end
/-- a dict whose keys are tuples, as it lies in the heap -/
def RawT (w : World) (a : Addr) (xs : List (NestedKey × Addr × Value)) : Heap → Prop := fun h => ∃ o es ep, h.get? a = some o ∧ o.ExactDict ∧ o.data = .dict es ep ∧
  es.toList = xs.map (fun x => ⟨x.1.hash w, .ref x.2.1, x.2.2⟩) ∧ (xs.map (·.1)).Nodup ∧ (a == sysModules) = false ∧ xs.length ≤ sizeLine
section
variable (K : PySem.W.Frag) (G : Addr → Prop) (S : HD) (H : Hp)
inductive RDt : List (D × D) → List (NestedKey × Addr × Value) → Prop
  | nil : RDt [] []
  | cons {kd d : D} {nk : NestedKey} {b : Addr} {v : V} {u : Value} {kds : List (D × D)} {xs : List (NestedKey × Addr × Value)} (hk : RD K G S H kd (.ref b)) (hn : nkOf kd = some nk) (hd : nk.depth ≤ 8) (hv : RelV v u) (h : RD K G S H d v) (r : RDt kds xs) :
      RDt ((kd, d) :: kds) ((nk, b, u) :: xs)
end
theorem RDt.mv (m : Mv G S H G' S' H') : ∀ {kds : List (D × D)} {xs : List (NestedKey × Addr × Value)}, RDt K G S H kds xs → RDt K G' S' H' kds xs
  | _, _, .nil => .nil
  | _, _, .cons hk hn hd hv h r => .cons (hk.mv m) hn hd hv (h.mv m) (RDt.mv m r)

def ROD (K : PySem.W.Frag) (G : Addr → Prop) (S : HD) (H : Hp) (a : Addr) : OD → Prop
  | .lst ds => ∃ vs, H a = some (.lst vs) ∧ RDs K G S H ds vs
  | .dic kds => ∃ kvs, H a = some (.dK kvs) ∧ RDk K G S H kds kvs
  | .ins C fs => ∃ dx vs, H a = some (.ins C dx vs) ∧ fs.map (·.1) = vs.map (·.1) ∧ RDs K G S H (fs.map (·.2)) (vs.map (·.2))
  | .dct w kds => ∃ xs, H a = some (.ext (RawT w a xs)) ∧ RDt K G S H kds xs
theorem ROD.there {a : Addr} {o : OD} (r : ROD K G S H a o) : ∃ u, H a = some u := by
  cases o with
  | lst ds => obtain ⟨_, e, _⟩ := r; exact ⟨_, e⟩
  | dic ds => obtain ⟨_, e, _⟩ := r; exact ⟨_, e⟩
  | ins C fs => obtain ⟨_, _, e, _⟩ := r; exact ⟨_, e⟩
  | dct w fs => obtain ⟨_, e, _⟩ := r; exact ⟨_, e⟩
theorem ROD.mv (m : Mv G S H G' S' H') {a : Addr} {o : OD} (e : H' a = H a) (r : ROD K G S H a o) : ROD K G' S' H' a o := by
  cases o with
  | lst ds => obtain ⟨vs, e1, q⟩ := r; exact ⟨vs, e.trans e1, q.mv m⟩
  | dic ds => obtain ⟨vs, e1, q⟩ := r; exact ⟨vs, e.trans e1, q.mv m⟩
  | ins C fs => obtain ⟨dx, vs, e1, k, q⟩ := r; exact ⟨dx, vs, e.trans e1, k, q.mv m⟩
  | dct w fs => obtain ⟨xs, e1, q⟩ := r; exact ⟨xs, e.trans e1, q.mv m⟩

/-- the deck as it stands: the cells and how many draws were made -/
def DeckAt (H : Hp) (a b : Addr) (c : Nat) : Prop :=
  ∃ (cells : List Int) (n : Nat), H a = some (.lst [.ref b, .int (n : Int)]) ∧ H b = some (.lst (cells.map V.int)) ∧ n ≤ c ∧ cells.length ≤ 63 ∧ ∀ z ∈ cells, 0 ≤ z
structure RH (K : PySem.W.Frag) (G : Addr → Prop) (S : HD) (H : Hp) : Prop where
  hp : ∀ a o, S.hp a = some o → ¬ Dk S a ∧ ¬ G a ∧ ROD K G S H a o
  rs : ∀ a, G a → (∃ o, H a = some o) ∧ ¬ Dk S a
  dk : ∀ a b, S.dk = some (a, b) → a ≠ b ∧ S.hp a = none ∧ S.hp b = none ∧ DeckAt H a b S.c
theorem RH.fresh (r : RH K G S H) {a : Addr} (h : H a = none) : S.hp a = none ∧ ¬ Dk S a ∧ ¬ G a := by
  refine ⟨?_, ?_, ?_⟩
  · cases e : S.hp a with
    | none => rfl
    | some o =>
      obtain ⟨u, q⟩ := (r.hp a o e).2.2.there
      rw [h] at q; cases q
  · rintro ⟨p, e, hp⟩
    obtain ⟨_, _, _, _, _, e1, e2, _⟩ := r.dk p.1 p.2 e
    rcases hp with z | z
    · rw [z, e1] at h; cases h
    · rw [z, e2] at h; cases h
  · intro g
    obtain ⟨⟨o, e⟩, _⟩ := r.rs a g
    rw [h] at e; cases e

/-- the heap has grown, nothing else -/
structure Grow (H H' : Hp) : Prop where
  kp : ∀ a o, H a = some o → H' a = some o
theorem Grow.upd {H : Hp} {p : Addr} {o : HO} (h : H p = none) : Grow H (upd H p o) := ⟨fun a u e => by rw [upd_ne (ne_of_none e h)]; exact e⟩
theorem Grow.fl (g : Grow H H') : FL S H S H' := ⟨fun a o h n d => ⟨n, d, g.kp a o h⟩, fun _ h => h⟩
theorem RH.grow (r : RH K G S H) (g : Grow H H') : RH K G S H' where
  hp := fun a o e => by
    obtain ⟨h1, h2, h3⟩ := r.hp a o e
    obtain ⟨u, q⟩ := h3.there
    exact ⟨h1, h2, h3.mv g.fl.mv ((g.kp a u q).trans q.symm)⟩
  rs := fun a h => let ⟨⟨o, e⟩, d⟩ := r.rs a h; ⟨⟨o, g.kp a o e⟩, d⟩
  dk := fun a b e => by
    obtain ⟨h1, h2, h3, cs, n, h4, h5, h6⟩ := r.dk a b e
    exact ⟨h1, h2, h3, cs, n, g.kp _ _ h4, g.kp _ _ h5, h6⟩
/-- a new object that is to be frozen -/
theorem RH.newF (r : RH K G S H) {p : Addr} (h : H p = none) (o : HO) : RH K G S (upd H p o) ∧ FL S H S (upd H p o) ∧ Fz G S p :=
  ⟨r.grow (.upd h), (Grow.upd h).fl, r.fresh h⟩
theorem RH.newT (r : RH K G S H) {p : Addr} (h : H p = none) {ds : List D} {vs : List V} (rs : RDs K G S H ds vs) : RD K G S (L2.upd H p (.tup vs)) (.tup ds) (.ref p) :=
  .tup (.inl ⟨r.fresh h, .inl upd_same⟩) (rs.fl (Grow.upd h).fl)
theorem RH.newL (r : RH K G S H) {p : Addr} (h : H p = none) {ds : List D} {vs : List V} (rs : RDs K G S H ds vs) : RD K G S (L2.upd H p (.lst vs)) (.lst ds) (.ref p) :=
  .lst (.inl ⟨r.fresh h, .inl upd_same⟩) (rs.fl (Grow.upd h).fl)
/-- a new object that is to be tracked -/
theorem RH.newR (r : RH K G S H) {p : Addr} (h : H p = none) {o : OD} {ho : HO} (q : ROD K G (S.set p o) (upd H p ho) p o) :
    RH K G (S.set p o) (upd H p ho) ∧ FL S H (S.set p o) (upd H p ho) := by
  obtain ⟨n1, n2, n3⟩ := r.fresh h
  have fl : FL S H (S.set p o) (upd H p ho) := ⟨fun a u e n d => by
    have ne := ne_of_none e h
    exact ⟨by rw [HD.set_ne ne]; exact n, d, by rw [upd_ne ne]; exact e⟩, fun _ e => e⟩
  refine ⟨⟨fun a u e => ?_, fun a g => ?_, fun a b e => ?_⟩, fl⟩
  · by_cases ha : a = p
    · subst ha
      rw [HD.set_same] at e; cases e
      exact ⟨n2, n3, q⟩
    · rw [HD.set_ne ha] at e
      obtain ⟨h1, h2, h3⟩ := r.hp a u e
      exact ⟨h1, h2, h3.mv fl.mv (upd_ne ha)⟩
  · obtain ⟨⟨u, e⟩, d⟩ := r.rs a g
    exact ⟨⟨u, (Grow.upd h).kp a u e⟩, d⟩
  · obtain ⟨h1, h2, h3, cs, n, h4, h5, h6⟩ := r.dk a b e
    exact ⟨h1, by rw [HD.set_ne (ne_of_none h4 h)]; exact h2, by rw [HD.set_ne (ne_of_none h5 h)]; exact h3, cs, n, (Grow.upd h).kp _ _ h4, (Grow.upd h).kp _ _ h5, h6⟩
/-- a tracked object is changed -/
theorem RH.write (r : RH K G S H) {p : Addr} {o o' : OD} (h : S.hp p = some o) {ho : HO} (q : ROD K G (S.set p o') (upd H p ho) p o') :
    RH K G (S.set p o') (upd H p ho) ∧ FL S H (S.set p o') (upd H p ho) := by
  obtain ⟨n2, n3, _⟩ := r.hp p o h
  have nep : ∀ {a : Addr}, S.hp a = none → a ≠ p := fun {a} e z => by rw [z, h] at e; cases e
  have fl : FL S H (S.set p o') (upd H p ho) := ⟨fun a u e n d => by
    have ne := nep n
    exact ⟨by rw [HD.set_ne ne]; exact n, d, by rw [upd_ne ne]; exact e⟩, fun _ e => e⟩
  refine ⟨⟨fun a u e => ?_, fun a g => ?_, fun a b e => ?_⟩, fl⟩
  · by_cases ha : a = p
    · subst ha
      rw [HD.set_same] at e; cases e
      exact ⟨n2, n3, q⟩
    · rw [HD.set_ne ha] at e
      obtain ⟨h1, h2, h3⟩ := r.hp a u e
      exact ⟨h1, h2, h3.mv fl.mv (upd_ne ha)⟩
  · obtain ⟨⟨u, e⟩, d⟩ := r.rs a g
    have ne : a ≠ p := fun z => n3 (z ▸ g)
    exact ⟨⟨u, by rw [upd_ne ne]; exact e⟩, d⟩
  · obtain ⟨h1, h2, h3, cs, n, h4, h5, h6⟩ := r.dk a b e
    exact ⟨h1, by rw [HD.set_ne (nep h2)]; exact h2, by rw [HD.set_ne (nep h3)]; exact h3, cs, n, by rw [upd_ne (nep h2)]; exact h4, by rw [upd_ne (nep h3)]; exact h5, h6⟩
/-- fewer tracked objects, a greater bound -/
structure HLe (S S' : HD) : Prop where
  hp : ∀ a o, S.hp a = some o → S'.hp a = some o
  c : S'.c ≤ S.c
  dk : S.dk = S'.dk
theorem HLe.refl (S : HD) : HLe S S := ⟨fun _ _ h => h, Nat.le_refl _, rfl⟩
theorem HLe.trans {S S1 S2 : HD} (a : HLe S S1) (b : HLe S1 S2) : HLe S S2 := ⟨fun c o h => b.hp c o (a.hp c o h), Nat.le_trans b.c a.c, a.dk.trans b.dk⟩
theorem HLe.set {S : HD} {p : Addr} {o : OD} (h : S.hp p = none) : HLe S (S.set p o) :=
  ⟨fun a u e => by rw [HD.set_ne (fun z => by rw [z, h] at e; cases e)]; exact e, Nat.le_refl _, rfl⟩
theorem HLe.tick {S S' : HD} (h : HLe S S') (n : Nat) : HLe (S.tick n) S' := ⟨h.hp, Nat.le_trans h.c (Nat.le_add_right _ _), h.dk⟩
theorem HLe.dkE (l : HLe S S') {a : Addr} : Dk S a ↔ Dk S' a := by unfold Dk; rw [l.dk]
theorem HLe.fz (l : HLe S S') {a : Addr} (h : S'.hp a = none) : S.hp a = none := by
  cases e : S.hp a with
  | none => rfl
  | some o => rw [l.hp a o e] at h; cases h
theorem HLe.mv (l : HLe S S') : Mv G S' H G S H :=
  ⟨fun a o e z => ⟨⟨l.fz z.1, fun d => z.2.1 (l.dkE.mp d), z.2.2⟩, e⟩, fun p h => l.dk.trans h⟩
theorem HLe.fl (l : HLe S S') : FL S' H S H :=
  ⟨fun a o e n d => ⟨l.fz n, fun z => d (l.dkE.mp z), e⟩, fun p h => l.dk.trans h⟩
theorem RH.le (r : RH K G S' H) (l : HLe S S') : RH K G S H where
  hp := fun a o e => by
    obtain ⟨h1, h2, h3⟩ := r.hp a o (l.hp a o e)
    exact ⟨fun d => h1 (l.dkE.mp d), h2, h3.mv l.mv rfl⟩
  rs := fun a g => let ⟨e, d⟩ := r.rs a g; ⟨e, fun z => d (l.dkE.mp z)⟩
  dk := fun a b e => by
    obtain ⟨h1, h2, h3, cs, n, h4, h5, h6, h7⟩ := r.dk a b (l.dk.symm.trans e)
    exact ⟨h1, l.fz h2, l.fz h3, cs, n, h4, h5, Nat.le_trans h6 l.c, h7⟩
end

/-! ### slots -/
abbrev SD := List (Option D)
structure RSl (K : PySem.W.Frag) (G : Addr → Prop) (S : HD) (H : Hp) (σd : SD) (σ : L2.St) : Prop where
  len : σd.length = σ.length
  sl : ∀ (i : Nat) (d : D), σd[i]? = some (some d) → ∃ v, σ[i]? = some (some v) ∧ RD K G S H d v
section
variable {K : PySem.W.Frag} {G G' : Addr → Prop} {S S' : HD} {H H' : Hp} {σd : SD} {σ : L2.St}
theorem RSl.mv (r : RSl K G S H σd σ) (m : Mv G S H G' S' H') : RSl K G' S' H' σd σ :=
  ⟨r.len, fun i d e => let ⟨v, h, q⟩ := r.sl i d e; ⟨v, h, q.mv m⟩⟩
theorem RSl.fl (r : RSl K G S H σd σ) (f : FL S H S' H') : RSl K G S' H' σd σ := r.mv f.mv
theorem RSl.set (r : RSl K G S H σd σ) {d : D} {v : V} (q : RD K G S H d v) (i : Nat) : RSl K G S H (σd.set i (some d)) (σ.set i (some v)) := by
  refine ⟨by simp [r.len], fun j e h => ?_⟩
  by_cases hj : i = j
  · subst hj
    have hi : i < σd.length := by
      have := (List.getElem?_eq_some_iff.mp h).1
      simpa using this
    rw [List.getElem?_set_self hi] at h
    cases h
    exact ⟨v, by rw [List.getElem?_set_self (r.len ▸ hi)], q⟩
  · rw [List.getElem?_set_ne hj] at h
    obtain ⟨u, h1, h2⟩ := r.sl j e h
    exact ⟨u, by rw [List.getElem?_set_ne hj]; exact h1, h2⟩
def wipeD (σ : SD) : List Nat → SD
  | [] => σ
  | v :: vs => (wipeD σ vs).set v none
theorem wipeD_length (σ : SD) : ∀ vs : List Nat, (wipeD σ vs).length = σ.length
  | [] => rfl
  | v :: vs => by unfold wipeD; rw [List.length_set, wipeD_length σ vs]
theorem RSl.setN (r : RSl K G S H σd σ) (i : Nat) : RSl K G S H (σd.set i none) (σ.set i none) := by
  refine ⟨by simp [r.len], fun j e h => ?_⟩
  by_cases hj : i = j
  · subst hj
    have hi : i < σd.length := by
      have := (List.getElem?_eq_some_iff.mp h).1
      simpa using this
    rw [List.getElem?_set_self hi] at h
    cases h
  · rw [List.getElem?_set_ne hj] at h
    obtain ⟨u, h1, h2⟩ := r.sl j e h
    exact ⟨u, by rw [List.getElem?_set_ne hj]; exact h1, h2⟩
theorem RSl.wipe (r : RSl K G S H σd σ) : ∀ vs : List Nat, RSl K G S H (wipeD σd vs) (wipe σ vs)
  | [] => r
  | v :: vs => (RSl.wipe r vs).setN v
end
end PD
end

section
/-! PD2: readings over deep values, lifted over the layer's readings: names, constants, displays, operators, tests. -/
namespace PD
open PySem PySem.Spec PyProof.Rows L2

abbrev QD := D → HD → Prop
abbrev TED := SD → HD → QD → Prop
abbrev TTD := SD → HD → (Bool → HD → Prop) → Prop
abbrev TAD := SD → HD → (List D → HD → Prop) → Prop

section
variable (K : PySem.W.Frag) (G : Addr → Prop) (S : HD) (H : Hp)
def Post (Qd : QD) (Q : VK) : Prop := ∀ S' d v H', FL S H S' H' → RH K G S' H' → RD K G S' H' d v → Qd d S' → Q v H'
def PostT (Qd : Bool → HD → Prop) (Q : Bool → Hp → Prop) : Prop := ∀ S' b H', FL S H S' H' → RH K G S' H' → Qd b S' → Q b H'
def PostA (Qd : List D → HD → Prop) (Q : List V → Hp → Prop) : Prop := ∀ S' ds vs H', FL S H S' H' → RH K G S' H' → RDs K G S' H' ds vs → Qd ds S' → Q vs H'
end
def up (K : PySem.W.Frag) (t : TED) : TE := fun σ H Q => ∃ G σd S Qd, RSl K G S H σd σ ∧ RH K G S H ∧ t σd S Qd ∧ Post K G S H Qd Q
def upT (K : PySem.W.Frag) (t : TTD) : TT := fun σ H Q => ∃ G σd S Qd, RSl K G S H σd σ ∧ RH K G S H ∧ t σd S Qd ∧ PostT K G S H Qd Q
def upA (K : PySem.W.Frag) (t : TAD) : TA := fun σ H Q => ∃ G σd S Qd, RSl K G S H σd σ ∧ RH K G S H ∧ t σd S Qd ∧ PostA K G S H Qd Q
abbrev DE (X : Cx) (e : Expr) (t : TED) : Prop := PE X e (up X.K t)
abbrev DT (X : Cx) (e : Expr) (t : TTD) : Prop := PT X e (upT X.K t)
abbrev DW (X : Cx) (e : Expr) (t : TTD) : Prop := PW X e (upT X.K t)
abbrev DA (X : Cx) (es : List Expr) (t : TAD) : Prop := PA X es (upA X.K t)

section
variable {X : Cx} {e : Expr}
theorem _root_.L2.PE.imp {t t' : TE} (h : PE X e t) (i : ∀ σ H Q, t' σ H Q → t σ H Q) : PE X e t' := ⟨fun pins s σ H Q I q => h.run pins s σ H Q I (i _ _ _ q)⟩
theorem _root_.L2.PT.imp {t t' : TT} (h : PT X e t) (i : ∀ σ H Q, t' σ H Q → t σ H Q) : PT X e t' := ⟨fun pins s σ H Q I q => h.run pins s σ H Q I (i _ _ _ q)⟩
theorem _root_.L2.PW.imp {t t' : TT} (h : PW X e t) (i : ∀ σ H Q, t' σ H Q → t σ H Q) : PW X e t' := ⟨fun wh pins s σ H Q I q => h.run wh pins s σ H Q I (i _ _ _ q)⟩
theorem _root_.L2.PA.imp {es : List Expr} {t t' : TA} (h : PA X es t) (i : ∀ σ H Q, t' σ H Q → t σ H Q) : PA X es t' := ⟨fun pos pins s σ H Q I q => h.run pos pins s σ H Q I (i _ _ _ q)⟩
end
section
variable {K : PySem.W.Frag} {G : Addr → Prop} {S S1 : HD} {H H1 : Hp}
theorem Post.fl {Qd : QD} {Q : VK} (p : Post K G S H Qd Q) (f : FL S H S1 H1) : Post K G S1 H1 Qd Q := fun S' d v H' f' => p S' d v H' (f.trans f')
theorem PostT.fl {Qd : Bool → HD → Prop} {Q : Bool → Hp → Prop} (p : PostT K G S H Qd Q) (f : FL S H S1 H1) : PostT K G S1 H1 Qd Q := fun S' d H' f' => p S' d H' (f.trans f')
theorem PostA.fl {Qd : List D → HD → Prop} {Q : List V → Hp → Prop} (p : PostA K G S H Qd Q) (f : FL S H S1 H1) : PostA K G S1 H1 Qd Q := fun S' d v H' f' => p S' d v H' (f.trans f')
/-- the value stands in the heap as it is -/
theorem Post.here {Qd : QD} {Q : VK} (p : Post K G S H Qd Q) (r : RH K G S H) {d : D} {v : V} (q : RD K G S H d v) (h : Qd d S) : Q v H := p S d v H (.refl _ _) r q h
theorem PostT.here {Qd : Bool → HD → Prop} {Q : Bool → Hp → Prop} (p : PostT K G S H Qd Q) (r : RH K G S H) {d : Bool} (h : Qd d S) : Q d H := p S d H (.refl _ _) r h
/-- a new frozen tuple, list -/
theorem Post.newT {Qd : QD} {Q : VK} (p : Post K G S H Qd Q) (r : RH K G S H) {ds : List D} {vs : List V} (q : RDs K G S H ds vs) (h : Qd (.tup ds) S) {a : Addr} (ha : H a = none) : Q (.ref a) (upd H a (.tup vs)) :=
  let ⟨r', f, _⟩ := r.newF ha (.tup vs); p S _ _ _ f r' (r.newT ha q) h
theorem Post.newL {Qd : QD} {Q : VK} (p : Post K G S H Qd Q) (r : RH K G S H) {ds : List D} {vs : List V} (q : RDs K G S H ds vs) (h : Qd (.lst ds) S) {a : Addr} (ha : H a = none) : Q (.ref a) (upd H a (.lst vs)) :=
  let ⟨r', f, _⟩ := r.newF ha (.lst vs); p S _ _ _ f r' (r.newL ha q) h
/-- a new tracked list -/
theorem Post.newR {Qd : QD} {Q : VK} (p : Post K G S H Qd Q) (r : RH K G S H) {ds : List D} {vs : List V} (q : RDs K G S H ds vs) (h : ∀ p, S.hp p = none → Qd (.ref p) (S.set p (.lst ds))) {a : Addr} (ha : H a = none) : Q (.ref a) (upd H a (.lst vs)) := by
  have n := r.fresh ha
  have m : Mv G S H G (S.set a (.lst ds)) (upd H a (.lst vs)) := ⟨fun b o e z => by
    have ne := ne_of_none e ha
    exact ⟨⟨by rw [HD.set_ne ne]; exact z.1, z.2.1, z.2.2⟩, by rw [upd_ne ne]; exact e⟩, fun _ e => e⟩
  obtain ⟨r', f⟩ := r.newR ha (o := .lst ds) (ho := .lst vs) ⟨vs, upd_same, q.mv m⟩
  exact p _ _ _ _ f r' (.ref a) (h a n.1)
end

/-! ### names and constants -/
def gt : SD → Nat → Option D
  | [], _ => none
  | x :: _, 0 => x
  | _ :: r, n + 1 => gt r n
theorem gt_some : ∀ {σ : SD} {i : Nat} {d : D}, gt σ i = some d → σ[i]? = some (some d)
  | [], _, _, h => by cases h
  | x :: _, 0, d, h => by simp [gt] at h; simp [h]
  | _ :: r, n + 1, d, h => by simpa using gt_some (σ := r) (i := n) h
/-- a slot that holds a value -/
def tSlot (i : Nat) : TED := fun σ S Q => match gt σ i with
  | some d => Q d S
  | none => False
def tCD (d : D) : TED := fun _ S Q => Q d S
section
variable {X : Cx}
theorem de_slot (i : Nat) {x : Str} {pos : Pos} (h : PE X (.Name x pos) (tVar i)) : DE X (.Name x pos) (tSlot i) := by
  refine h.imp fun σ H Q q => ?_
  obtain ⟨G, σd, S, Qd, rs, rh, t, p⟩ := q
  unfold tSlot at t
  cases e : gt σd i with
  | none => rw [e] at t; exact t.elim
  | some d =>
    rw [e] at t
    obtain ⟨v, h1, h2⟩ := rs.sl i d (gt_some e)
    exact ⟨v, h1, p.here rh h2 t⟩
theorem de_c {e : Expr} {v : V} {d : D} (h : PE X e (tC v)) (r : ∀ G S H, RD X.K G S H d v) : DE X e (tCD d) :=
  h.imp fun σ H Q ⟨G, σd, S, Qd, rs, rh, t, p⟩ => p.here rh (r _ _ _) t
theorem de_int {i j pos} : DE X (.Constant (.int i) j pos) (tCD (.int i)) := de_c pe_int fun _ _ _ => .int _
theorem de_bl {b j pos} : DE X (.Constant (.bool b) j pos) (tCD (.bl b)) := de_c pe_bl fun _ _ _ => .bl _
theorem de_non {j pos} : DE X (.Constant .none j pos) (tCD .non) := de_c pe_non fun _ _ _ => .non
theorem de_str {x j pos} : DE X (.Constant (.str x) j pos) (tCD (.str x)) := de_c pe_str fun _ _ _ => .str _
/-- a built-in class as a value -/
theorem de_ty {n : String} {x : Str} {pos : Pos} (hg : Gl X x) (hm : X.mg x = none) (hv : bootBuiltins x = some (.type n)) (hn : x ≠ "__name__" := by decide) (hd : (x == ("__debug__" : Str)) = false := by decide) : DE X (.Name x pos) (tCD (.ty n)) :=
  de_c (pe_bltn (v := .ty n) hg hm hv rfl hn hd) fun _ _ _ => .ty _
/-- a module's int, text -/
theorem de_globI {x : Str} {i : Int} {t : Tok} {pos : Pos} (hg : Gl X x) (hm : X.mg x = some (.int i t)) (hd : (x == ("__debug__" : Str)) = false := by decide) : DE X (.Name x pos) (tCD (.int i)) :=
  de_c (pe_glob (v := .int i) hg hm ⟨_, rfl⟩ hd) fun _ _ _ => .int _
theorem de_globS {x : Str} {i : Str} {t : Tok} {pos : Pos} (hg : Gl X x) (hm : X.mg x = some (.str i t)) (hd : (x == ("__debug__" : Str)) = false := by decide) : DE X (.Name x pos) (tCD (.str i)) :=
  de_c (pe_glob (v := .str i) hg hm ⟨_, rfl⟩ hd) fun _ _ _ => .str _

/-! ### argument lists, displays -/
def tNilD : TAD := fun _ S Q => Q [] S
def tConsD (te : TED) (tr : TAD) : TAD := fun σ S Q => te σ S fun d S1 => tr σ S1 fun ds S2 => Q (d :: ds) S2
theorem da_nil : DA X [] tNilD := pa_nil.imp fun σ H Q ⟨G, σd, S, Qd, rs, rh, t, p⟩ => p S [] [] H (.refl _ _) rh .nil t
theorem da_cons {e : Expr} {es : List Expr} {te : TED} {tr : TAD} (h : DE X e te) (hr : DA X es tr) (hs : starEach (e :: es) X.env = (false, eval e X.env) :: starEach es X.env := by rfl) : DA X (e :: es) (tConsD te tr) :=
  (pa_cons h hr hs).imp fun σ H Q ⟨G, σd, S, Qd, rs, rh, t, p⟩ =>
    ⟨G, σd, S, _, rs, rh, t, fun S1 d v H1 f1 rh1 q1 t1 => ⟨G, σd, S1, _, rs.fl f1, rh1, t1, fun S2 ds vs H2 f2 rh2 q2 t2 => p S2 _ _ H2 (f1.trans f2) rh2 (.cons (q1.fl f2) q2) t2⟩⟩
def tTupD (ta : TAD) : TED := fun σ S Q => ta σ S fun ds S1 => ds.length ≤ 1000 ∧ Q (.tup ds) S1
def tLstV (ta : TAD) : TED := fun σ S Q => ta σ S fun ds S1 => ds.length ≤ 1000 ∧ Q (.lst ds) S1
def tLstR (ta : TAD) : TED := fun σ S Q => ta σ S fun ds S1 => ds.length ≤ 1000 ∧ ∀ p, S1.hp p = none → Q (.ref p) (S1.set p (.lst ds))
theorem line1000 {n : Nat} (h : n ≤ 1000) : n ≤ sizeLine := Nat.le_trans h (by decide)
theorem de_tup {es : List Expr} {ta : TAD} {k pos} (h : DA X es ta) : DE X (.Tuple es k pos) (tTupD ta) :=
  (pe_tup h).imp fun σ H Q ⟨G, σd, S, Qd, rs, rh, t, p⟩ =>
    ⟨G, σd, S, _, rs, rh, t, fun S1 ds vs H1 f1 rh1 q1 ⟨l1, t1⟩ => ⟨q1.length ▸ line1000 l1, fun a ha => (p.fl f1).newT rh1 q1 t1 ha⟩⟩
theorem de_lstV {es : List Expr} {ta : TAD} {pos} (h : DA X es ta) : DE X (.List es pos) (tLstV ta) :=
  (pe_lst h).imp fun σ H Q ⟨G, σd, S, Qd, rs, rh, t, p⟩ =>
    ⟨G, σd, S, _, rs, rh, t, fun S1 ds vs H1 f1 rh1 q1 ⟨l1, t1⟩ => ⟨q1.length ▸ line1000 l1, fun a ha => (p.fl f1).newL rh1 q1 t1 ha⟩⟩
theorem de_lstR {es : List Expr} {ta : TAD} {pos} (h : DA X es ta) : DE X (.List es pos) (tLstR ta) :=
  (pe_lst h).imp fun σ H Q ⟨G, σd, S, Qd, rs, rh, t, p⟩ =>
    ⟨G, σd, S, _, rs, rh, t, fun S1 ds vs H1 f1 rh1 q1 ⟨l1, t1⟩ => ⟨q1.length ▸ line1000 l1, fun a ha => (p.fl f1).newR rh1 q1 t1 ha⟩⟩

/-! ### two operands -/
abbrev R2D := D → D → HD → QD → Prop
/-- a reading by values, lifted -/
def Op2 (K : PySem.W.Frag) (r : R2) (rd : R2D) : Prop := ∀ (G : Addr → Prop) (S : HD) (H : Hp) (d1 d2 : D) (v1 v2 : V) (Qd : QD) (Q : VK), RH K G S H → RD K G S H d1 v1 → RD K G S H d2 v2 → rd d1 d2 S Qd → Post K G S H Qd Q → r v1 v2 H Q
def tBin (rd : R2D) (ta tb : TED) : TED := fun σ S Q => ta σ S fun x S1 => tb σ S1 fun y S2 => rd x y S2 Q
theorem up_bin {K : PySem.W.Frag} {r : R2} {rd : R2D} (h : Op2 K r rd) {ta tb : TED} : ∀ σ H Q, up K (tBin rd ta tb) σ H Q → tOp r (up K ta) (up K tb) σ H Q := fun σ H Q ⟨G, σd, S, Qd, rs, rh, t, p⟩ =>
  ⟨G, σd, S, _, rs, rh, t, fun S1 d v H1 f1 rh1 q1 t1 => ⟨G, σd, S1, _, rs.fl f1, rh1, t1, fun S2 d2 v2 H2 f2 rh2 q2 t2 => h G S2 H2 d d2 v v2 _ _ rh2 (q1.fl f2) q2 t2 (p.fl (f1.trans f2))⟩⟩
theorem Op2.or {K : PySem.W.Frag} {r r' : R2} {rd rd' : R2D} (h : Op2 K r rd) (h' : Op2 K r' rd') : Op2 K (fun x y H Q => r x y H Q ∨ r' x y H Q) (fun x y S Q => rd x y S Q ∨ rd' x y S Q) :=
  fun G S H d1 d2 v1 v2 Qd Q rh q1 q2 t p => t.imp (fun t => h G S H d1 d2 v1 v2 Qd Q rh q1 q2 t p) fun t => h' G S H d1 d2 v1 v2 Qd Q rh q1 q2 t p
variable {a b : Expr} {ta tb : TED} {pos : Pos}
theorem de_op {op : Operator} {r : R2} {rd : R2D} (ho : OpR X (binaryOp op) r) (h : Op2 X.K r rd) (ha : DE X a ta) (hb : DE X b tb) : DE X (.BinOp a op b pos) (tBin rd ta tb) := (pe_op ho ha hb).imp (up_bin h)
theorem de_cmp {op : CmpOp} {r : R2} {rd : R2D} (ho : OpR X (compareOp op) r) (h : Op2 X.K r rd) (ha : DE X a ta) (hb : DE X b tb) (hm : behindInMarks op b = false) : DE X (.Compare a [op] [b] pos) (tBin rd ta tb) := (pe_cmpR ho ha hb hm).imp (up_bin h)
/-- a value that is a bool, as a test -/
def tTst (t : TED) : TTD := fun σ S Q => t σ S fun x S1 => match x with
  | .bl k => Q k S1
  | _ => False
theorem up_tst {K : PySem.W.Frag} {r : R2} {rd : R2D} (h : Op2 K r rd) {ta tb : TED} : ∀ σ H Q, upT K (tTst (tBin rd ta tb)) σ H Q → tTest (tOp r (up K ta) (up K tb)) σ H Q := fun σ H Q ⟨G, σd, S, Qd, rs, rh, t, p⟩ =>
  up_bin h σ H _ ⟨G, σd, S, _, rs, rh, t, fun S1 d v H1 f1 rh1 q1 t1 => by
    cases q1 with
    | bl k => exact ⟨k, rfl, p S1 k H1 f1 rh1 t1⟩
    | _ => exact t1.elim⟩
theorem dt_cmp {op : CmpOp} {r : R2} {rd : R2D} (ho : OpR X (compareOp op) r) (h : Op2 X.K r rd) (ha : DE X a ta) (hb : DE X b tb) (hm : behindInMarks op b = false) : DT X (.Compare a [op] [b] pos) (tTst (tBin rd ta tb)) := (pt_cmpR ho ha hb hm).imp (up_tst h)
theorem dt_val {e : Expr} {t : TED} (h : DE X e t) (he : ∀ whole, isTrue e X.env whole = (do let v ← whole; standAt e.pos; holding [v] (truthy v)) := by intro _; rfl) : DT X e (tTst t) :=
  (pt_val h he).imp fun σ H Q ⟨G, σd, S, Qd, rs, rh, t, p⟩ => ⟨G, σd, S, _, rs, rh, t, fun S1 d v H1 f1 rh1 q1 t1 => by
    cases q1 with
    | bl k => exact ⟨k, rfl, p S1 k H1 f1 rh1 t1⟩
    | _ => exact t1.elim⟩

/-! ### and, or, not, if as tests and as values -/
variable {tA tB' : TTD} {rest : List Expr} {c : Expr}
def tAndD (t u : TTD) : TTD := fun σ S Q => t σ S fun c S1 => if c = true then u σ S1 Q else Q false S1
def tOrD (t u : TTD) : TTD := fun σ S Q => t σ S fun c S1 => if c = true then Q true S1 else u σ S1 Q
def tNotD (t : TTD) : TTD := fun σ S Q => t σ S fun c S1 => Q (!c) S1
theorem dw_and1 (ha : DT X a tA) : DW X (.BoolOp .And [a] pos) tA := pw_and1 ha
theorem dw_or1 (ha : DT X a tA) : DW X (.BoolOp .Or [a] pos) tA := pw_or1 ha
theorem dw_and (ha : DT X a tA) (hb : DW X (.BoolOp .And (b :: rest) pos) tB') : DW X (.BoolOp .And (a :: b :: rest) pos) (tAndD tA tB') :=
  (pw_and ha hb).imp fun σ H Q ⟨G, σd, S, Qd, rs, rh, t, p⟩ => ⟨G, σd, S, _, rs, rh, t, fun S1 k H1 f1 rh1 t1 => by
    cases k with
    | true => rw [if_pos rfl] at t1 ⊢; exact ⟨G, σd, S1, _, rs.fl f1, rh1, t1, p.fl f1⟩
    | false => rw [if_neg Bool.false_ne_true] at t1 ⊢; exact p S1 false H1 f1 rh1 t1⟩
theorem dw_or (ha : DT X a tA) (hb : DW X (.BoolOp .Or (b :: rest) pos) tB') : DW X (.BoolOp .Or (a :: b :: rest) pos) (tOrD tA tB') :=
  (pw_or ha hb).imp fun σ H Q ⟨G, σd, S, Qd, rs, rh, t, p⟩ => ⟨G, σd, S, _, rs, rh, t, fun S1 k H1 f1 rh1 t1 => by
    cases k with
    | false => rw [if_neg Bool.false_ne_true] at t1 ⊢; exact ⟨G, σd, S1, _, rs.fl f1, rh1, t1, p.fl f1⟩
    | true => rw [if_pos rfl] at t1 ⊢; exact p S1 true H1 f1 rh1 t1⟩
theorem dt_w (h : DW X c tA) : DT X c tA := PW.pt h
theorem dt_not (ha : DT X a tA) : DT X (.UnaryOp .Not a pos) (tNotD tA) :=
  (pt_not ha).imp fun σ H Q ⟨G, σd, S, Qd, rs, rh, t, p⟩ => ⟨G, σd, S, _, rs, rh, t, fun S1 k H1 f1 rh1 t1 => p S1 _ H1 f1 rh1 t1⟩
def tIfD (t : TTD) (ta tb : TED) : TED := fun σ S Q => t σ S fun c S1 => if c = true then ta σ S1 Q else tb σ S1 Q
theorem de_if (hc : DT X c tA) (ha : DE X a ta) (hb : DE X b tb) : DE X (.IfExp c a b pos) (tIfD tA ta tb) :=
  (pe_ifExp hc ha hb).imp fun σ H Q ⟨G, σd, S, Qd, rs, rh, t, p⟩ => ⟨G, σd, S, _, rs, rh, t, fun S1 k H1 f1 rh1 t1 => by
    cases k with
    | true => rw [if_pos rfl] at t1 ⊢; exact ⟨G, σd, S1, _, rs.fl f1, rh1, t1, p.fl f1⟩
    | false => rw [if_neg Bool.false_ne_true] at t1 ⊢; exact ⟨G, σd, S1, _, rs.fl f1, rh1, t1, p.fl f1⟩⟩
/-- as values: all but the last are bools -/
def tAndV (ta tb : TED) : TED := fun σ S Q => ta σ S fun x S1 => match x with
  | .bl true => tb σ S1 Q
  | .bl false => Q (.bl false) S1
  | _ => False
def tOrV (ta tb : TED) : TED := fun σ S Q => ta σ S fun x S1 => match x with
  | .bl true => Q (.bl true) S1
  | .bl false => tb σ S1 Q
  | _ => False
def tNotV (ta : TED) : TED := fun σ S Q => ta σ S fun x S1 => match x with
  | .bl k => Q (.bl (!k)) S1
  | _ => False
theorem de_one {op} (h : DE X a ta) : DE X (.BoolOp op [a] pos) ta := pe_one h
theorem de_and (ha : DE X a ta) (hb : DE X (.BoolOp .And (b :: rest) pos) tb) : DE X (.BoolOp .And (a :: b :: rest) pos) (tAndV ta tb) :=
  (pe_and ha hb).imp fun σ H Q ⟨G, σd, S, Qd, rs, rh, t, p⟩ => ⟨G, σd, S, _, rs, rh, t, fun S1 d v H1 f1 rh1 q1 t1 => by
    cases q1 with
    | bl k =>
      refine ⟨k, rfl, ?_⟩
      cases k with
      | true => rw [if_pos rfl]; exact ⟨G, σd, S1, _, rs.fl f1, rh1, t1, p.fl f1⟩
      | false => rw [if_neg Bool.false_ne_true]; exact p S1 _ _ H1 f1 rh1 (.bl _) t1
    | _ => exact t1.elim⟩
theorem de_or (ha : DE X a ta) (hb : DE X (.BoolOp .Or (b :: rest) pos) tb) : DE X (.BoolOp .Or (a :: b :: rest) pos) (tOrV ta tb) :=
  (pe_or ha hb).imp fun σ H Q ⟨G, σd, S, Qd, rs, rh, t, p⟩ => ⟨G, σd, S, _, rs, rh, t, fun S1 d v H1 f1 rh1 q1 t1 => by
    cases q1 with
    | bl k =>
      refine ⟨k, rfl, ?_⟩
      cases k with
      | false => rw [if_neg Bool.false_ne_true]; exact ⟨G, σd, S1, _, rs.fl f1, rh1, t1, p.fl f1⟩
      | true => rw [if_pos rfl]; exact p S1 _ _ H1 f1 rh1 (.bl _) t1
    | _ => exact t1.elim⟩
theorem de_not (ha : DE X a ta) : DE X (.UnaryOp .Not a pos) (tNotV ta) :=
  (pe_not ha).imp fun σ H Q ⟨G, σd, S, Qd, rs, rh, t, p⟩ => ⟨G, σd, S, _, rs, rh, t, fun S1 d v H1 f1 rh1 q1 t1 => by
    cases q1 with
    | bl k => exact ⟨k, rfl, p S1 _ _ H1 f1 rh1 (.bl _) t1⟩
    | _ => exact t1.elim⟩
/-- one operand -/
abbrev R1D := D → HD → QD → Prop
def tUnD (r : R1D) (ta : TED) : TED := fun σ S Q => ta σ S fun x S1 => r x S1 Q
def rNeg : R1D := fun x S Q => match x with
  | .int i => Q (.int (-i)) S
  | _ => False
theorem de_neg (ha : DE X a ta) : DE X (.UnaryOp .USub a pos) (tUnD rNeg ta) :=
  (pe_un un_neg ha).imp fun σ H Q ⟨G, σd, S, Qd, rs, rh, t, p⟩ => ⟨G, σd, S, _, rs, rh, t, fun S1 d v H1 f1 rh1 q1 t1 => by
    cases q1 with
    | int i => exact ⟨i, rfl, p S1 _ _ H1 f1 rh1 (.int _) t1⟩
    | _ => exact t1.elim⟩
end
end PD
end

section
/-! PD3: statements, targets, loops over deep values. -/
namespace PD
open PySem PySem.Spec PyProof.Rows L2

structure EndsD where
  nx : SD → HD → Prop
  rt : QD
  bk : SD → HD → Prop := fun _ _ => False
  ct : SD → HD → Prop := fun _ _ => False
abbrev TSD := EndsD → SD → HD → Prop
abbrev TGD := D → SD → HD → (SD → HD → Prop) → Prop
abbrev TGsD := List D → SD → HD → (SD → HD → Prop) → Prop

section
variable (K : PySem.W.Frag) (G : Addr → Prop) (S : HD) (H : Hp)
def PostS (nd : SD → HD → Prop) (n : L2.St → Hp → Prop) : Prop := ∀ S' σd σ H', FL S H S' H' → RH K G S' H' → RSl K G S' H' σd σ → nd σd S' → n σ H'
structure PEnds (Dd : EndsD) (D : Ends) : Prop where
  nx : PostS K G S H Dd.nx D.nx
  rt : Post K G S H Dd.rt D.rt
  bk : PostS K G S H Dd.bk D.bk
  ct : PostS K G S H Dd.ct D.ct
end
def upS (K : PySem.W.Frag) (t : TSD) : TS := fun D σ H => ∃ G σd S Dd, RSl K G S H σd σ ∧ RH K G S H ∧ t Dd σd S ∧ PEnds K G S H Dd D
def upG (K : PySem.W.Frag) (t : TGD) : TG := fun v σ H Q => ∃ G σd S d Qd, RSl K G S H σd σ ∧ RH K G S H ∧ RD K G S H d v ∧ t d σd S Qd ∧ PostS K G S H Qd Q
def upGs (K : PySem.W.Frag) (t : TGsD) : TGs := fun vs σ H Q => ∃ G σd S ds Qd, RSl K G S H σd σ ∧ RH K G S H ∧ RDs K G S H ds vs ∧ t ds σd S Qd ∧ PostS K G S H Qd Q
abbrev DS (X : Cx) (st : Stmt) (t : TSD) : Prop := PS X st (upS X.K t)
abbrev DSs (X : Cx) (st : List Stmt) (t : TSD) : Prop := PSs X st (upS X.K t)
abbrev DG (X : Cx) (tg : Expr) (t : TGD) : Prop := PG X tg (upG X.K t)
abbrev DGs (X : Cx) (tg : List Expr) (t : TGsD) : Prop := PGs X tg (upGs X.K t)

theorem _root_.L2.PS.imp {X : Cx} {st : Stmt} {t t' : TS} (h : PS X st t) (i : ∀ D σ H, t' D σ H → t D σ H) : PS X st t' := ⟨fun pins s σ H D I q => h.run pins s σ H D I (i _ _ _ q)⟩
theorem _root_.L2.PSs.imp {X : Cx} {st : List Stmt} {t t' : TS} (h : PSs X st t) (i : ∀ D σ H, t' D σ H → t D σ H) : PSs X st t' := ⟨fun pins s σ H D I q => h.run pins s σ H D I (i _ _ _ q)⟩
theorem _root_.L2.PG.imp {X : Cx} {tg : Expr} {t t' : TG} (h : PG X tg t) (i : ∀ v σ H Q, t' v σ H Q → t v σ H Q) : PG X tg t' := ⟨fun pins s σ H v u Q I r q => h.run pins s σ H v u Q I r (i _ _ _ _ q)⟩
theorem _root_.L2.PGs.imp {X : Cx} {tg : List Expr} {t t' : TGs} (h : PGs X tg t) (i : ∀ v σ H Q, t' v σ H Q → t v σ H Q) : PGs X tg t' := ⟨fun pins s σ H v u Q I r q => h.run pins s σ H v u Q I r (i _ _ _ _ q)⟩
section
variable {K : PySem.W.Frag} {G : Addr → Prop} {S S1 : HD} {H H1 : Hp}
theorem PostS.fl {nd : SD → HD → Prop} {n : L2.St → Hp → Prop} (p : PostS K G S H nd n) (f : FL S H S1 H1) : PostS K G S1 H1 nd n := fun S' d v H' f' => p S' d v H' (f.trans f')
theorem PEnds.fl {Dd : EndsD} {D : Ends} (p : PEnds K G S H Dd D) (f : FL S H S1 H1) : PEnds K G S1 H1 Dd D := ⟨p.nx.fl f, p.rt.fl f, p.bk.fl f, p.ct.fl f⟩
theorem PostS.here {nd : SD → HD → Prop} {n : L2.St → Hp → Prop} (p : PostS K G S H nd n) (r : RH K G S H) {σd : SD} {σ : L2.St} (rs : RSl K G S H σd σ) (h : nd σd S) : n σ H := p S σd σ H (.refl _ _) r rs h
end

/-! ### blocks and small statements -/
section
variable {X : Cx} {st : Stmt} {rest : List Stmt} {t u : TSD} {e : Expr} {te : TED} {pos : Pos}
def sNextD : TSD := fun D σ S => D.nx σ S
def sSeqD (t u : TSD) : TSD := fun D σ S => t { D with nx := u D } σ S
theorem dss_nil : DSs X [] sNextD := pss_nil.imp fun D σ H ⟨G, σd, S, Dd, rs, rh, t, p⟩ => p.nx.here rh rs t
theorem dss_cons (h1 : DS X st t) (h2 : DSs X rest u) : DSs X (st :: rest) (sSeqD t u) :=
  (pss_cons h1 h2).imp fun D σ H ⟨G, σd, S, Dd, rs, rh, q, p⟩ =>
    ⟨G, σd, S, _, rs, rh, q, fun S1 σd1 σ1 H1 f1 rh1 rs1 q1 => ⟨G, σd1, S1, Dd, rs1, rh1, q1, p.fl f1⟩, p.rt, p.bk, p.ct⟩
theorem dss_one (h1 : DS X st t) : DSs X [st] t := pss_one h1
def sBreakD : TSD := fun D σ S => D.bk σ S
def sContD : TSD := fun D σ S => D.ct σ S
theorem ds_pass : DS X (.Pass pos) sNextD := ps_pass.imp fun D σ H ⟨G, σd, S, Dd, rs, rh, t, p⟩ => p.nx.here rh rs t
theorem ds_break : DS X (.Break pos) sBreakD := ps_break.imp fun D σ H ⟨G, σd, S, Dd, rs, rh, t, p⟩ => p.bk.here rh rs t
theorem ds_continue : DS X (.Continue pos) sContD := ps_continue.imp fun D σ H ⟨G, σd, S, Dd, rs, rh, t, p⟩ => p.ct.here rh rs t
theorem ds_doc {x j pos pos'} : DS X (.Expr (.Constant (.str x) j pos) pos') sNextD := ps_doc.imp fun D σ H ⟨G, σd, S, Dd, rs, rh, t, p⟩ => p.nx.here rh rs t
def sDropD (te : TED) : TSD := fun D σ S => te σ S fun _ S1 => D.nx σ S1
theorem ds_expr (he : DE X e te) (hs : swapsWith e none pos.line X.env = pure false := by rfl) : DS X (.Expr e pos) (sDropD te) :=
  (ps_expr he hs).imp fun D σ H ⟨G, σd, S, Dd, rs, rh, t, p⟩ => ⟨G, σd, S, _, rs, rh, t, fun S1 d v H1 f1 rh1 q1 t1 => p.nx S1 σd σ H1 f1 rh1 (rs.fl f1) t1⟩
def sRetD (te : TED) : TSD := fun D σ S => te σ S D.rt
theorem ds_ret (he : DE X e te) : DS X (.Return (some e) pos) (sRetD te) :=
  (ps_ret he).imp fun D σ H ⟨G, σd, S, Dd, rs, rh, t, p⟩ => ⟨G, σd, S, _, rs, rh, t, p.rt⟩
def sRetND : TSD := fun D _ S => D.rt .non S
theorem ds_retN : DS X (.Return none pos) sRetND := ps_retN.imp fun D σ H ⟨G, σd, S, Dd, rs, rh, t, p⟩ => p.rt.here rh .non t
def sIfD (c : TTD) (t u : TSD) : TSD := fun D σ S => c σ S fun b S1 => if b = true then t D σ S1 else u D σ S1
theorem ds_if {c : Expr} {a b : List Stmt} {tc : TTD} (hc : DT X c tc) (ha : DSs X a t) (hb : DSs X b u) : DS X (.If c a b pos) (sIfD tc t u) :=
  (ps_if hc ha hb).imp fun D σ H ⟨G, σd, S, Dd, rs, rh, t, p⟩ => ⟨G, σd, S, _, rs, rh, t, fun S1 k H1 f1 rh1 t1 => by
    cases k with
    | true => rw [if_pos rfl] at t1 ⊢; exact ⟨G, σd, S1, Dd, rs.fl f1, rh1, t1, p.fl f1⟩
    | false => rw [if_neg Bool.false_ne_true] at t1 ⊢; exact ⟨G, σd, S1, Dd, rs.fl f1, rh1, t1, p.fl f1⟩⟩
def sNeverD : TSD := fun _ _ _ => False
theorem ds_never : DS X st sNeverD := ⟨fun _ _ _ _ _ _ ⟨_, _, _, _, _, _, q, _⟩ => q.elim⟩
theorem dss_never {sts : List Stmt} : DSs X sts sNeverD := ⟨fun _ _ _ _ _ _ ⟨_, _, _, _, _, _, q, _⟩ => q.elim⟩
end

/-! ### targets -/
section
variable {X : Cx} {pos : Pos}
/-- set a slot -/
def st : SD → Nat → D → SD
  | [], _, _ => []
  | _ :: r, 0, d => some d :: r
  | x :: r, n + 1, d => x :: st r n d
theorem st_eq : ∀ (σ : SD) (i : Nat) (d : D), st σ i d = σ.set i (some d)
  | [], _, _ => rfl
  | _ :: _, 0, _ => rfl
  | x :: r, n + 1, d => by unfold st; rw [st_eq r n d]; rfl
def gNameD (i : Nat) : TGD := fun d σ S Q => Q (st σ i d) S
theorem dg_name (i : Nat) {e : Expr} (h : PG X e (gName i)) : DG X e (gNameD i) :=
  h.imp fun v σ H Q ⟨G, σd, S, d, Qd, rs, rh, q, t, p⟩ => p S _ _ H (.refl _ _) rh (by rw [st_eq]; exact rs.set q i) t
def gNilD : TGsD := fun ds σ S Q => ds = [] ∧ Q σ S
def gConsD (t : TGD) (u : TGsD) : TGsD := fun ds σ S Q => match ds with
  | d :: r => t d σ S fun σ' S' => u r σ' S' Q
  | [] => False
theorem dgs_nil : DGs X [] gNilD := pgs_nil.imp fun vs σ H Q ⟨G, σd, S, ds, Qd, rs, rh, q, ⟨e, t⟩, p⟩ => by
  subst e
  cases q
  exact ⟨rfl, p.here rh rs t⟩
theorem dgs_cons {e : Expr} {es : List Expr} {t : TGD} {u : TGsD} (h1 : DG X e t) (h2 : DGs X es u)
    (hs : (assignEach (e :: es) X.env).map (·.2) = assign e X.env :: (assignEach es X.env).map (·.2) := by rfl) : DGs X (e :: es) (gConsD t u) :=
  (pgs_cons h1 h2 hs).imp fun vs σ H Q ⟨G, σd, S, ds, Qd, rs, rh, q, tt, p⟩ => by
    cases q with
    | nil => exact tt.elim
    | cons q qs =>
      exact ⟨_, _, rfl, G, σd, S, _, _, rs, rh, q, tt, fun S1 σd1 σ1 H1 f1 rh1 rs1 q1 => ⟨G, σd1, S1, _, Qd, rs1, rh1, qs.fl f1, q1, p.fl f1⟩⟩
def gTupD (n : Nat) (t : TGsD) : TGD := fun d σ S Q => match d with
  | .tup ds => ds.length = n ∧ t ds σ S Q
  | _ => False
theorem FzT.sq {K : PySem.W.Frag} {G : Addr → Prop} {S : HD} {H : Hp} {a : Addr} {vs : List V} (h : FzT K G S H a vs) : SqT K H a vs := h.imp (fun z => z.2) fun ⟨o, its, n, h⟩ => ⟨o, its, n, h⟩
theorem FzL.sq {K : PySem.W.Frag} {G : Addr → Prop} {S : HD} {H : Hp} {a : Addr} {vs : List V} (h : FzL K G S H a vs) : SqL K H a vs := h.imp (fun z => z.2) fun ⟨o, its, n, h⟩ => ⟨o, its, n, h⟩
theorem dg_tup {es : List Expr} {k : Nat} {t : TGsD} {n : Nat} (hc : X.calm = true) (h : DGs X es t)
    (hn : (assignEach es X.env).length = n := by rfl) (hst : (assignEach es X.env).findIdx? (·.1) = none := by rfl) : DG X (.Tuple es k pos) (gTupD n t) :=
  (pg_tup hc h hn hst).imp fun v σ H Q ⟨G, σd, S, d, Qd, rs, rh, q, tt, p⟩ => by
    cases q with
    | @tup a vs ds h r =>
      obtain ⟨l, tt⟩ := tt
      exact ⟨a, vs, rfl, h.sq, r.length ▸ l, G, σd, S, _, _, rs, rh, r, tt, p⟩
    | _ => exact tt.elim
/-- target = value -/
def sAsgD (te : TED) (g : TGD) : TSD := fun D σ S => te σ S fun x S1 => g x σ S1 D.nx
theorem up_asg {K : PySem.W.Frag} {te : TED} {g : TGD} : ∀ D σ H, upS K (sAsgD te g) D σ H → tAsg (up K te) (upG K g) D σ H := fun D σ H ⟨G, σd, S, Dd, rs, rh, t, p⟩ =>
  ⟨G, σd, S, _, rs, rh, t, fun S1 d v H1 f1 rh1 q1 t1 => ⟨G, σd, S1, d, _, rs.fl f1, rh1, q1, t1, p.nx.fl f1⟩⟩
theorem up_asgN {K : PySem.W.Frag} {te : TED} {i : Nat} : ∀ D σ H, upS K (sAsgD te (gNameD i)) D σ H → tAsg (up K te) (gName i) D σ H := fun D σ H ⟨G, σd, S, Dd, rs, rh, t, p⟩ =>
  ⟨G, σd, S, _, rs, rh, t, fun S1 d v H1 f1 rh1 q1 t1 => p.nx S1 _ _ H1 f1 rh1 ((rs.fl f1).set q1 i) (st_eq σd i d ▸ t1)⟩
theorem ds_asg {tg e : Expr} {te : TED} {g : TGD} (he : DE X e te) (hg : DG X tg g) (hs : swapsWithSole [tg] e pos.line X.env = pure false := by rfl) (hw : swappedStores [tg] e X.env = pure none := by rfl)
    (h1 : (assignEach [tg] X.env).map (·.2) = [assign tg X.env] := by rfl) : DS X (.Assign [tg] e pos) (sAsgD te g) := (ps_asg he hg hs hw h1).imp up_asg
theorem ds_set (i : Nat) {x : Str} {e : Expr} {te : TED} {pos' : Pos} (hN : X.N.Nodup) (he : DE X e te) (hi : X.N[i]? = some x := by rfl) (hx : Loc X.env.scope x := by first | exact .inl rfl | exact .inr rfl) (hs : swapsWith e (some (.Name x pos')) pos.line X.env = pure false := by rfl) (hf : X.fn x = true ∨ X.env.scope.names.lookup x = some .local := by first | exact .inl rfl | exact .inr rfl | assumption) :
    DS X (.Assign [.Name x pos'] e pos) (sAsgD te (gNameD i)) := (ps_set hN hi hx he hs hf).imp up_asgN
/-- a, b = x, y with plain local names -/
def sPar2 (i j : Nat) (ta : TAD) : TSD := fun D σ S => ta σ S fun ds S1 => match ds with
  | [d, e] => D.nx (st (st σ i d) j e) S1
  | _ => False
theorem ds_par (i j : Nat) {x y : Str} {a b : Expr} {ta : TAD} {px py pt : Pos} {kt k2 pt2} (hN : X.N.Nodup) (ha : DA X [a, b] ta) (hc : X.calm = true := by rfl) (hi : X.N[i]? = some x := by rfl) (hj : X.N[j]? = some y := by rfl) (hij : i ≠ j := by decide)
    (hx : X.env.scope.names.lookup x = some .local := by rfl) (hy : X.env.scope.names.lookup y = some .local := by rfl)
    (hw : swappedStores [.Tuple [.Name x px, .Name y py] kt pt] (.Tuple [a, b] k2 pt2) X.env = pure (some [x, y]) := by rfl)
    (hs : swapsWithSole [.Tuple [.Name x px, .Name y py] kt pt] (.Tuple [a, b] k2 pt2) pos.line X.env = pure false := by rfl) :
    DS X (.Assign [.Tuple [.Name x px, .Name y py] kt pt] (.Tuple [a, b] k2 pt2) pos) (sPar2 i j ta) :=
  (ps_par hc hN hi hj hij hx hy ha hw hs).imp fun D σ H ⟨G, σd, S, Dd, rs, rh, t, p⟩ =>
    ⟨G, σd, S, _, rs, rh, t, fun S1 ds vs H1 f1 rh1 q1 t1 => by
      cases q1 with
      | nil => exact t1.elim
      | cons q1 r =>
        cases r with
        | nil => exact t1.elim
        | cons q2 r =>
          cases r with
          | cons _ _ => exact t1.elim
          | nil => exact ⟨_, _, rfl, p.nx S1 _ _ H1 f1 rh1 (by rw [st_eq, st_eq]; exact ((rs.fl f1).set q1 i).set q2 j) t1⟩⟩
def sPar3 (i j l : Nat) (ta : TAD) : TSD := fun D σ S => ta σ S fun ds S1 => match ds with
  | [d, e, f] => D.nx (st (st (st σ i d) j e) l f) S1
  | _ => False
theorem ds_par3 (i j l : Nat) {x y z : Str} {a b c : Expr} {ta : TAD} {px py pz pt : Pos} {kt k2 pt2} (hN : X.N.Nodup) (ha : DA X [a, b, c] ta) (hc : X.calm = true := by rfl) (hi : X.N[i]? = some x := by rfl) (hj : X.N[j]? = some y := by rfl) (hl : X.N[l]? = some z := by rfl) (hij : i ≠ j := by decide) (hil : i ≠ l := by decide) (hjl : j ≠ l := by decide)
    (hx : X.env.scope.names.lookup x = some .local := by rfl) (hy : X.env.scope.names.lookup y = some .local := by rfl) (hz : X.env.scope.names.lookup z = some .local := by rfl)
    (hw : swappedStores [.Tuple [.Name x px, .Name y py, .Name z pz] kt pt] (.Tuple [a, b, c] k2 pt2) X.env = pure (some [x, y, z]) := by rfl)
    (hs : swapsWithSole [.Tuple [.Name x px, .Name y py, .Name z pz] kt pt] (.Tuple [a, b, c] k2 pt2) pos.line X.env = pure false := by rfl) :
    DS X (.Assign [.Tuple [.Name x px, .Name y py, .Name z pz] kt pt] (.Tuple [a, b, c] k2 pt2) pos) (sPar3 i j l ta) :=
  (ps_par3 hc hN hi hj hl hij hil hjl hx hy hz ha hw hs).imp fun D σ H ⟨G, σd, S, Dd, rs, rh, t, p⟩ =>
    ⟨G, σd, S, _, rs, rh, t, fun S1 ds vs H1 f1 rh1 q1 t1 => by
      cases q1 with
      | nil => exact t1.elim
      | cons q1 r =>
        cases r with
        | nil => exact t1.elim
        | cons q2 r =>
          cases r with
          | nil => exact t1.elim
          | cons q3 r =>
            cases r with
            | cons _ _ => exact t1.elim
            | nil => exact ⟨_, _, _, rfl, p.nx S1 _ _ H1 f1 rh1 (by rw [st_eq, st_eq, st_eq]; exact (((rs.fl f1).set q1 i).set q2 j).set q3 l) t1⟩⟩
end

/-! ### what is walked: a list of deep items, that stay as long as keep holds -/
structure ItOk (K : PySem.W.Frag) (G : Addr → Prop) (S : HD) (H : Hp) (J : It) (xs : List D) (keep : HD → Prop) : Prop where
  go : ∀ (i : Nat) (d : D) (S1 : HD) (H1 : Hp), xs[i]? = some d → FL S H S1 H1 → RH K G S1 H1 → keep S1 → J.go i H1 ∧ ∀ x H2, J.yld i H1 x H2 → FL S1 H1 S1 H2 ∧ RH K G S1 H2 ∧ RD K G S1 H2 d x
  stop : ∀ (S1 : HD) (H1 : Hp), FL S H S1 H1 → RH K G S1 H1 → keep S1 → J.stop xs.length H1
abbrev TID := SD → HD → (List D → (HD → Prop) → HD → Prop) → Prop
def upI (K : PySem.W.Frag) (t : TID) : TI := fun σ H R => ∃ G σd S Rd, RSl K G S H σd σ ∧ RH K G S H ∧ t σd S Rd ∧
  ∀ S' J xs keep H', FL S H S' H' → RH K G S' H' → (∀ G' S2 H2, Mv G S' H' G' S2 H2 → RH K G' S2 H2 → ItOk K G' S2 H2 J xs keep) → Rd xs keep S' → R J H'
abbrev DI (X : Cx) (tg iter : Expr) (t : TID) : Prop := PI X tg iter (upI X.K t)
theorem _root_.L2.PI.imp {X : Cx} {tg e : Expr} {t t' : TI} (h : PI X tg e t) (i : ∀ σ H R, t' σ H R → t σ H R) : PI X tg e t' := ⟨fun pins s σ H R I q => h.run pins s σ H R I (i _ _ _ q)⟩

/-- the loop over the items -/
def loopD (g : TGD) (tb : TSD) (E : EndsD) (keep : HD → Prop) : List D → SD → HD → Prop
  | [], σ, S => keep S ∧ E.nx σ S
  | d :: r, σ, S => keep S ∧ g d σ S fun σ2 S2 => tb { nx := loopD g tb E keep r, ct := loopD g tb E keep r, bk := E.nx, rt := E.rt } σ2 S2
def sForD (ti : TID) (g : TGD) (tb : TSD) : TSD := fun D σ S => ti σ S fun xs keep S1 => loopD g tb D keep xs σ S1
section
variable {X : Cx} {pos : Pos}
theorem ds_for {tg iter : Expr} {body : List Stmt} {ti : TID} {g : TGD} {tb : TSD} (hp : PassesOwn (model X.prog X.w) X.A X.env X.xe) (hi : DI X tg iter ti) (hg : DG X tg g) (hb : DSs X body tb) (hc : X.calm = true := by rfl)
    (hs : ∀ x, foldedSetIterable iter X.env x = pure x := by intro _; rfl) : DS X (.For tg iter body [] pos) (sForD ti g tb) :=
  (ps_for hp hc hi hg hb hs).imp fun D σ H ⟨G, σd, S, Dd, rs, rh, t, p⟩ => by
    refine ⟨G, σd, S, _, rs, rh, t, fun S1 J xs keep H1 f1 rh1 hJ t1 => ?_⟩
    have ok := hJ G S1 H1 (FL.refl _ _).mv rh1
    refine ⟨fun i m σ2 H2 => m = xs.length - i ∧ i ≤ xs.length ∧ ∃ σd2 S2, FL S1 H1 S2 H2 ∧ RSl X.K G S2 H2 σd2 σ2 ∧ RH X.K G S2 H2 ∧ loopD g tb Dd keep (xs.drop i) σd2 S2,
      ⟨xs.length, by simp, Nat.zero_le _, σd, S1, .refl _ _, rs.fl f1, rh1, t1⟩, ?_⟩
    rintro i m σ2 H2 ⟨rfl, hi, σd2, S2, f2, rs2, rh2, t2⟩
    by_cases hlt : i < xs.length
    · have hx : xs[i]? = some xs[i] := by simp [hlt]
      rw [List.drop_eq_getElem_cons hlt] at t2
      obtain ⟨k2, t2⟩ := t2
      obtain ⟨go, yl⟩ := ok.go i _ S2 H2 hx f2 rh2 k2
      refine .inr ⟨go, fun σ' H' => ∃ σd2 S2, FL S1 H1 S2 H' ∧ RSl X.K G S2 H' σd2 σ' ∧ RH X.K G S2 H' ∧ loopD g tb Dd keep (xs.drop (i + 1)) σd2 S2, fun σ' H' n => ⟨_, by omega, rfl, hlt, n⟩, fun x H3 y => ?_⟩
      obtain ⟨f3, rh3, q3⟩ := yl x H3 y
      refine ⟨G, σd2, S2, _, _, rs2.fl f3, rh3, q3, t2, fun S4 σd4 σ4 H4 f4 rh4 rs4 t4 => ?_⟩
      have f14 := f2.trans (f3.trans f4)
      refine ⟨G, σd4, S4, _, rs4, rh4, t4, fun S5 σd5 σ5 H5 f5 rh5 rs5 t5 => ⟨σd5, S5, f14.trans f5, rs5, rh5, t5⟩, p.rt.fl (f1.trans f14), p.nx.fl (f1.trans f14), fun S5 σd5 σ5 H5 f5 rh5 rs5 t5 => ⟨σd5, S5, f14.trans f5, rs5, rh5, t5⟩⟩
    · have e : i = xs.length := by omega
      subst e
      rw [List.drop_length] at t2
      exact .inl ⟨ok.stop S2 H2 f2 rh2 t2.1, p.nx S2 _ _ H2 (f1.trans f2) rh2 rs2 t2.2⟩

/-! ### while: by a number of turns -/
def whileN (c : TTD) (tb : TSD) (D : EndsD) : Nat → SD → HD → Prop
  | 0, _, _ => False
  | n + 1, σ, S => c σ S fun b S1 => if b = true then tb { nx := whileN c tb D n, ct := whileN c tb D n, bk := D.nx, rt := D.rt } σ S1 else D.nx σ S1
def sWhileD (c : TTD) (tb : TSD) : TSD := fun D σ S => ∃ n, whileN c tb D n σ S
theorem ds_while {c : Expr} {body : List Stmt} {tc : TTD} {tb : TSD} (hp : PassesOwn (model X.prog X.w) X.A X.env X.xe) (hc : DT X c tc) (hb : DSs X body tb) : DS X (.While c body [] pos) (sWhileD tc tb) :=
  (ps_while hp hc hb).imp fun D σ H ⟨G, σd, S, Dd, rs, rh, ⟨n, t⟩, p⟩ => by
    refine ⟨fun m σ2 H2 => ∃ σd2 S2, FL S H S2 H2 ∧ RSl X.K G S2 H2 σd2 σ2 ∧ RH X.K G S2 H2 ∧ whileN tc tb Dd m σd2 S2, ⟨n, σd, S, .refl _ _, rs, rh, t⟩, ?_⟩
    rintro m σ2 H2 ⟨σd2, S2, f2, rs2, rh2, t2⟩
    cases m with
    | zero => exact t2.elim
    | succ m =>
      refine ⟨G, σd2, S2, _, rs2, rh2, t2, fun S3 b H3 f3 rh3 t3 => ?_⟩
      have f13 := f2.trans f3
      cases b with
      | true =>
        refine iteT ?_
        exact ⟨fun σ' H' => ∃ σd2 S2, FL S H S2 H' ∧ RSl X.K G S2 H' σd2 σ' ∧ RH X.K G S2 H' ∧ whileN tc tb Dd m σd2 S2, fun σ' H' n => ⟨m, Nat.lt_succ_self _, n⟩,
          G, σd2, S3, _, rs2.fl f3, rh3, t3, fun S5 σd5 σ5 H5 f5 rh5 rs5 t5 => ⟨σd5, S5, f13.trans f5, rs5, rh5, t5⟩, p.rt.fl f13, p.nx.fl f13, fun S5 σd5 σ5 H5 f5 rh5 rs5 t5 => ⟨σd5, S5, f13.trans f5, rs5, rh5, t5⟩⟩
      | false =>
        refine iteF ?_
        exact p.nx S3 _ _ H3 f13 rh3 (rs2.fl f3) t3
end
end PD
end

section
/-! PD4: what a def promises over deep values; calls; comprehensions. -/
namespace PD
open PySem PySem.Spec PyProof.Rows L2

structure RoomG (k : Nat) (A : Around) : Prop where
  rm : Room k A
  gd : A.guards = some []
theorem RoomG.mono {j k : Nat} {A : Around} (r : RoomG k A) (h : j ≤ k) : RoomG j A := ⟨r.rm.mono h, r.gd⟩
theorem RoomG.deeper {k : Nat} {A : Around} (r : RoomG (k + 1) A) (env : Env) : RoomG k (A.deeper env) := ⟨r.rm.deeper env, r.gd⟩
theorem RoomG.un1 {k : Nat} {A : Around} (r : RoomG k A) : A.units + 1 < cLine := hu_of r.rm
theorem RoomG.un64 {k : Nat} {A : Around} (r : RoomG k A) : A.units + 64 < cLine := r.rm.units
theorem RoomG.un65 {k : Nat} {A : Around} (r : RoomG k A) : A.units + 65 < cLine := by have := r.rm.un; omega

abbrev SpD := List D → HD → QD → Prop
/-- the end of a call -/
def CED (K : PySem.W.Frag) (G : Addr → Prop) (S : HD) (H : Hp) (Qd : QD) : VK := fun v H' => ∃ S' d, FL S H S' H' ∧ RH K G S' H' ∧ RD K G S' H' d v ∧ Qd d S'
structure FnD (P : Program) (w : World) (K : PySem.W.Frag) (mg : Str → Option Value) (base : Heap) (k : Nat) (f : Addr) (fd : FuncData) (ps : List Str) (sp : SpD) : Prop where
  len : ∀ ds S Q, sp ds S Q → ds.length = ps.length
  run : ∀ (A : Around) (outer : List Env) (s : Shared) (H : Hp) (args : Args) (us : List Value) (vs : List V) (ds : List D) (G : Addr → Prop) (S : HD) (Qd : QD), RoomG k A → Env0 P w K mg base A outer s H →
    BindsTo s fd args (ps.zip us) → Vals vs us → RDs K G S H ds vs → RH K G S H → sp ds S Qd → codeAny (model P w) A (.call (.ref f) args) (CR CX0 outer P w H s (CED K G S H Qd) E0) s
theorem FnD.mono {P : Program} {w : World} {K : PySem.W.Frag} {mg : Str → Option Value} {base : Heap} {j k : Nat} {f : Addr} {fd : FuncData} {ps : List Str} {sp : SpD} (F : FnD P w K mg base j f fd ps sp) (h : j ≤ k) : FnD P w K mg base k f fd ps sp :=
  ⟨F.len, fun A outer s H args us vs ds G S Qd hr => F.run A outer s H args us vs ds G S Qd (hr.mono h)⟩
theorem FnD.imp {P : Program} {w : World} {K : PySem.W.Frag} {mg : Str → Option Value} {base : Heap} {k : Nat} {f : Addr} {fd : FuncData} {ps : List Str} {sp sp' : SpD} (F : FnD P w K mg base k f fd ps sp) (h : ∀ ds S Q, sp' ds S Q → sp ds S Q) : FnD P w K mg base k f fd ps sp' :=
  ⟨fun ds S Q q => F.len ds S Q (h _ _ _ q), fun A outer s H args us vs ds G S Qd hr e b v r rh q => F.run A outer s H args us vs ds G S Qd hr e b v r rh (h _ _ _ q)⟩

/-- a def of the module by its name -/
structure Has (P : Program) (w : World) (K : PySem.W.Frag) (mg : Str → Option Value) (base : Heap) (k : Nat) (x : Str) (ps : List Str) (sp : SpD) : Prop where
  ex : ∃ f fd, mg x = some (.ref f) ∧ PySem.W.keepIn K (.ref f) = true ∧ Binds K fd ps [] ∧ FnD P w K mg base k f fd ps sp
theorem Has.mono {P : Program} {w : World} {K : PySem.W.Frag} {mg : Str → Option Value} {base : Heap} {j k : Nat} {x : Str} {ps : List Str} {sp : SpD} (h : Has P w K mg base j x ps sp) (l : j ≤ k) : Has P w K mg base k x ps sp :=
  let ⟨f, fd, a, b, c, d⟩ := h.ex; ⟨f, fd, a, b, c, d.mono l⟩
theorem Has.imp {P : Program} {w : World} {K : PySem.W.Frag} {mg : Str → Option Value} {base : Heap} {k : Nat} {x : Str} {ps : List Str} {sp sp' : SpD} (h : Has P w K mg base k x ps sp) (i : ∀ ds S Q, sp' ds S Q → sp ds S Q) : Has P w K mg base k x ps sp' :=
  let ⟨f, fd, a, b, c, d⟩ := h.ex; ⟨f, fd, a, b, c, d.imp i⟩

def tCallD (sp : SpD) (ta : TAD) : TED := fun σ S Q => ta σ S fun ds S1 => sp ds S1 Q
section
variable {X : Cx} {k : Nat} {f : Addr} {fd : FuncData} {ps : List Str} {sp : SpD} {x : Str} {p pos : Pos} {e : Expr} {es : List Expr} {ta : TAD}
/-- the callee runs, from a body -/
theorem run_fnD {pins : List (Addr × Obj)} {σ : L2.St} {H : Hp} {s : Shared} {us : List Value} {vs : List V} {ds : List D} {G : Addr → Prop} {S : HD} {Qd : QD} {Q : VK}
    (F : FnD X.prog X.w X.K X.mg X.base k f fd ps sp) (hr : RoomG k X.A) (hb : Binds X.K fd ps []) (I : Inv X pins σ H s) (r : Vals vs us) (q : RDs X.K G S H ds vs) (rh : RH X.K G S H) (h : sp ds S Qd) (p : Post X.K G S H Qd Q) :
    wpAny (model X.prog X.w) X.A (call (.ref f) us) (EP X pins σ Q) X.xe s := by
  have hl : us.length = ps.length := by
    have h1 := F.len _ _ _ h
    have h2 := q.length
    have h3 := r.length
    omega
  have hb' := hb s us I.kIn (by rw [List.append_nil]; exact hl)
  rw [List.append_nil] at hb'
  refine wpAny_call (codeAny_mono (F.run X.A X.stack s H ⟨us, []⟩ us vs ds G S Qd hr I.env0 hb' r q rh h) fun z s' hq => ?_)
  cases z with
  | error e => exact False.elim hq
  | ok fl =>
    cases fl with
    | ret u =>
      have hq' : CE X.stack X.prog X.w H s Q u s' := by
        obtain ⟨v, H', h1, h2, h3, h4, h5, S', d, f', rh', rd', qd⟩ := hq
        exact ⟨v, H', h1, h2, h3, h4, h5, p S' d v H' f' rh' rd' qd⟩
      exact I.after hq'
    | next => exact False.elim hq
    | brk => exact False.elim hq
    | cont => exact False.elim hq
theorem de_call (h : Has X.prog X.w X.K X.mg X.base k x ps sp) (hr : RoomG k X.A) (ha : DA X (e :: es) ta) (hg : Gl X x := by rfl) (hdb : (x == ("__debug__" : Str)) = false := by decide)
    (he : starEach (e :: es) X.env = (false, eval e X.env) :: starEach es X.env := by rfl) (hpl : (backTo pos (starEach es X.env)).any (·.1) = false := by rfl) :
    DE X (.Call (.Name x p) (e :: es) [] pos) (tCallD sp ta) := by
  obtain ⟨f, fd, hm, hk, hb, F⟩ := h.ex
  refine ⟨fun pins s σ H Q I ⟨G, σd, S, Qd, rs, rh, t, p⟩ => ?_⟩
  refine wpAny_Call_Name_kw (ld_glob I hg hm ?_ hdb)
  have hA := ha.run pos pins s σ H (fun vs H1 => ∃ S1 ds, FL S H S1 H1 ∧ RH X.K G S1 H1 ∧ RDs X.K G S1 H1 ds vs ∧ sp ds S1 Qd) I ⟨G, σd, S, _, rs, rh, t, fun S1 ds vs H1 f1 rh1 q1 t1 => ⟨S1, ds, f1, rh1, q1, t1⟩⟩
  refine PySem.W.callWith_K (h₀ := X.base) I.ok.mod.kin hk ?_ he hpl
  refine thn hA fun us s1 hus => ?_
  obtain ⟨vs, H1, I1, r, S1, ds, f1, rh1, q1, t1⟩ := hus
  exact ⟨I1.kIn, run_fnD F hr hb I1 r q1 rh1 t1 (p.fl f1)⟩
theorem de_call0 (h : Has X.prog X.w X.K X.mg X.base k x ps sp) (hr : RoomG k X.A) (hg : Gl X x := by rfl) (hdb : (x == ("__debug__" : Str)) = false := by decide) : DE X (.Call (.Name x p) [] [] pos) (tCallD sp tNilD) := by
  obtain ⟨f, fd, hm, hk, hb, F⟩ := h.ex
  refine ⟨fun pins s σ H Q I ⟨G, σd, S, Qd, rs, rh, t, p⟩ => ?_⟩
  refine wpAny_Call_Name_kw (ld_glob I hg hm ?_ hdb)
  exact PySem.W.callWith_K0 I.kIn hk (run_fnD (us := []) F hr hb I .nil .nil rh t p)
end

/-! ### a def by its body -/
/-- the same value, told otherwise -/
def Cv (d : D) (S : HD) (d' : D) (S' : HD) : Prop := ∀ (K : PySem.W.Frag) (G : Addr → Prop) (H : Hp) (v : V), RH K G S H → RD K G S H d v → RH K G S' H ∧ FL S H S' H ∧ RD K G S' H d' v
theorem Cv.le {d : D} {S S' : HD} (l : HLe S' S) : Cv d S d S' := fun K G H v r q => ⟨r.le l, l.fl, q.mv l.mv⟩
theorem Cv.trans {d d1 d2 : D} {S S1 S2 : HD} (a : Cv d S d1 S1) (b : Cv d1 S1 d2 S2) : Cv d S d2 S2 := fun K G H v r q =>
  let ⟨r1, f1, q1⟩ := a K G H v r q; let ⟨r2, f2, q2⟩ := b K G H v r1 q1; ⟨r2, f1.trans f2, q2⟩
/-- a tracked list is frozen -/
theorem del_le (S : HD) (a : Addr) : HLe (S.del a) S := ⟨fun b u z => by
  unfold HD.del at z
  by_cases hb : b = a
  · simp [hb] at z
  · simpa [hb] using z, Nat.le_refl _, rfl⟩
theorem Cv.frz {a : Addr} {S : HD} {xs : List D} (h : S.hp a = some (.lst xs)) : Cv (.ref a) S (.lst xs) (S.del a) := fun K G H v r q => by
  obtain ⟨h1, h2, vs, h3, h4⟩ := r.hp a _ h
  cases q
  exact ⟨r.le (del_le S a), (del_le S a).fl, .lst (.inl ⟨⟨by simp [HD.del], fun z => h1 ((del_le S a).dkE.mp z), h2⟩, .inl h3⟩) (h4.mv (del_le S a).mv)⟩
/-- the end of a body: what is not wanted any more is forgotten -/
def fin (Q : QD) : QD := fun d S => ∃ S' d', Cv d S d' S' ∧ Q d' S'
theorem fin.le {Q : QD} {d : D} {S S' : HD} (l : HLe S S') (q : Q d S) : fin Q d S' := ⟨S, d, .le l, q⟩
theorem fin.frz {Q : QD} {a : Addr} {S S' : HD} {xs : List D} (h : S'.hp a = some (.lst xs)) (l : HLe S (S'.del a)) (q : Q (.lst xs) S) : fin Q (.ref a) S' := ⟨S, _, (Cv.frz h).trans (.le l), q⟩
def pad : Nat → List D → SD
  | 0, _ => []
  | n + 1, [] => none :: pad n []
  | n + 1, d :: r => some d :: pad n r
theorem pad_len : ∀ (n : Nat) (ds : List D), (pad n ds).length = n
  | 0, _ => rfl
  | n + 1, [] => by simp [pad, pad_len n []]
  | n + 1, d :: r => by simp [pad, pad_len n r]
theorem pad_nil (n : Nat) {i : Nat} {d : D} : (pad n [])[i]? ≠ some (some d) := by
  induction n generalizing i with
  | zero => simp [pad]
  | succ n ih =>
    cases i with
    | zero => simp [pad]
    | succ i => simpa [pad] using ih
theorem pad_slots {K : PySem.W.Frag} {G : Addr → Prop} {S : HD} {H : Hp} : ∀ {n : Nat} {ds : List D} {vs : List V} {i : Nat} {d : D}, RDs K G S H ds vs → (pad n ds)[i]? = some (some d) → ∃ v, vs[i]? = some v ∧ RD K G S H d v
  | 0, _, _, _, _, _, e => by simp [pad] at e
  | n + 1, [], _, i, d, _, e => (pad_nil (n + 1) e).elim
  | n + 1, _ :: _, _, 0, d, .cons q r, e => by
    simp [pad] at e
    subst e
    exact ⟨_, rfl, q⟩
  | n + 1, _ :: _, _, i + 1, d, .cons q r, e => by
    obtain ⟨v, h1, h2⟩ := pad_slots (n := n) (i := i) r (by simpa [pad] using e)
    exact ⟨v, by simpa using h1, h2⟩
section
variable {P : Program} {w : World} {K : PySem.W.Frag} {mg : Str → Option Value} {base : Heap}
/-- the core: the body's reading starts at a state and deep values that tell the same, and ends at what gives the call's end -/
theorem FnD.core {x qual : Str} {st : Stmt} {f : Addr} {fd : FuncData} {N ps : List Str} {k : Nat} {sp : SpD} (F : Fun K x qual st f fd) (Sc : FnScope N ps (defScope st)) (t : TSD) (len : ∀ ds S Q, sp ds S Q → ds.length = ps.length)
    (hd : ∀ (cdv : Value) (A : Around) (outer : List Env) (s : Shared) (H : Hp), RoomG k (A.deeper (envOfC qual (defScope st) s.heap.objs.size f cdv)) →
      DSs (cxOf CX0 P w K mg base N qual (defScope st) f cdv A outer s H E0).nox (defBody st) t)
    (hq : ∀ ds S Qd, sp ds S Qd → ∀ G H vs, RH K G S H → RDs K G S H ds vs → ∃ ds' S0 Dd, RH K G S0 H ∧ RDs K G S0 H ds' vs ∧ t Dd (pad N.length ds') S0 ∧
      (∀ S' d v H', FL S0 H S' H' → RH K G S' H' → RD K G S' H' d v → Dd.rt d S' → CED K G S H Qd v H') ∧ (∀ S' σd H', FL S0 H S' H' → RH K G S' H' → Dd.nx σd S' → CED K G S H Qd .non H') ∧ (∀ σd S', ¬ Dd.bk σd S') ∧ ∀ σd S', ¬ Dd.ct σd S') : FnD P w K mg base (k + 1) f fd ps sp := by
  obtain ⟨oc, od, kV, doc, pm, an, cdv, ct, osl, rfl, lk, hcd⟩ := F.ex
  refine ⟨len, fun A outer s H args us vs ds G S Qd hr e0 hb r rd rh hsp => ?_⟩
  have hl : vs.length = ps.length := rd.length.symm.trans (len _ _ _ hsp)
  have KX : K.In s.heap := e0.mod.kin.keeps fun b o e => (e0.bs b o e).1
  have lim : s.heap.NoLimit := e0.mod.nolimit.keeps fun b o e => (e0.bs b o e).1
  refine codeAny_call_function hr.rm.depth (KX _ _ lk) rfl Sc.co Sc.gen rfl (PySem.W.codeRec_of KX hcd) (hb _ _ _ _ ?_)
  have hkind : ∀ y ∈ ps.zip us, (defScope st).names.lookup y.1 = some .local ∨ ((defScope st).names.lookup y.1 = some .cell ∧ ((cellsFrom (s.heap.objs.size + 1) (defScope st).names []).lookup y.1).isSome = true) := by
    rintro ⟨n, v⟩ hy
    exact (Sc.par n (List.of_mem_zip hy).1).imp id fun q => ⟨q, PySem.W.cellsFrom_some _ _ _ (.inl q)⟩
  refine wpAny_newFunctionEnv_cells Sc.kind hkind fun env he s1 x1 => ?_
  subst he
  refine ⟨lim.keeps x1.toInCall.keep, codeAny_func ?_⟩
  have I := inv_start (CX := CX0) (E := E0) Sc hr.rm.hd e0 hl r x1
  have ht := hd cdv A outer s H (hr.deeper _)
  obtain ⟨ds', S0, Dd, rh0, rd0, hq0, hrt, hnx, hbk, hct⟩ := hq ds S Qd hsp G H vs rh rd
  have start_ok : RSl K G S0 H (pad N.length ds') (L2.start N vs) := by
    refine ⟨?_, fun i d e => ?_⟩
    · rw [pad_len]
      unfold L2.start
      have hpl : ps.length ≤ N.length := by have := congrArg List.length Sc.pre; rw [List.length_take] at this; omega
      simp
      omega
    · obtain ⟨v, h1, h2⟩ := pad_slots rd0 e
      refine ⟨v, ?_, h2⟩
      unfold L2.start
      have hi : i < vs.length := (List.getElem?_eq_some_iff.mp h1).1
      rw [List.getElem?_append_left (by simpa using hi), List.getElem?_map, h1]
      rfl
  refine wpAny_mono (ht.run [] s1 (L2.start N vs) H { nx := fun _ H' => CED K G S H Qd .non H', rt := CED K G S H Qd } (I.wish _) ⟨G, _, S0, Dd, start_ok, rh0, hq0, ?_, ?_, ?_, ?_⟩) (fun fl s' hs => ?_) fun e s' hs => False.elim hs
  · exact fun S' σd σ H' f' rh' rs' q => hnx S' σd H' f' rh' q
  · exact fun S' d v H' f' rh' rd' q => hrt S' d v H' f' rh' rd' q
  · exact fun S' σd σ H' f' rh' rs' q => (hbk _ _ q).elim
  · exact fun S' σd σ H' f' rh' rs' q => (hct _ _ q).elim
  · cases fl with
    | ret u =>
      obtain ⟨v, σ', H', J, rv, q⟩ := hs
      exact ⟨v, H', J.os, J.bare, J.base, J.hok, rv, q⟩
    | next =>
      obtain ⟨σ', H', J, q⟩ := hs
      exact ⟨V.non, H', J.os, J.bare, J.base, J.hok, rfl, q⟩
    | brk => obtain ⟨_, _, _, q⟩ := hs; exact False.elim q
    | cont => obtain ⟨_, _, _, q⟩ := hs; exact False.elim q
theorem FnD.of {x qual : Str} {st : Stmt} {f : Addr} {fd : FuncData} {N ps : List Str} {k : Nat} {sp : SpD} (F : Fun K x qual st f fd) (Sc : FnScope N ps (defScope st)) (t : TSD) (len : ∀ ds S Q, sp ds S Q → ds.length = ps.length)
    (hd : ∀ (cdv : Value) (A : Around) (outer : List Env) (s : Shared) (H : Hp), RoomG k (A.deeper (envOfC qual (defScope st) s.heap.objs.size f cdv)) →
      DSs (cxOf CX0 P w K mg base N qual (defScope st) f cdv A outer s H E0).nox (defBody st) t)
    (hq : ∀ ds S Qd, sp ds S Qd → t { nx := fun _ S' => fin Qd .non S', rt := fin Qd } (pad N.length ds) S) : FnD P w K mg base (k + 1) f fd ps sp := by
  refine FnD.core F Sc t len hd fun ds S Qd hsp G H vs rh rd => ⟨ds, S, { nx := fun _ S' => fin Qd .non S', rt := fin Qd }, rh, rd, hq ds S Qd hsp, ?_, ?_, fun _ _ h => h, fun _ _ h => h⟩
  · exact fun S' d v H' f' rh' rd' ⟨S2, d2, cv, q⟩ => let ⟨r2, f2, q2⟩ := cv K G H' v rh' rd'; ⟨S2, d2, f'.trans f2, r2, q2, q⟩
  · exact fun S' σd H' f' rh' ⟨S2, d2, cv, q⟩ => let ⟨r2, f2, q2⟩ := cv K G H' .non rh' .non; ⟨S2, d2, f'.trans f2, r2, q2, q⟩
/-- by its name -/
theorem Has.of {x : Str} {st : Stmt} {f : Addr} {fd : FuncData} {ps : List Str} {k : Nat} {sp : SpD} (F : Fun K x x st f fd) (hm : mg x = some (.ref f)) (hb : Binds K fd ps []) (h : FnD P w K mg base k f fd ps sp) : Has P w K mg base k x ps sp :=
  ⟨⟨f, fd, hm, F.kp, hb, h⟩⟩
end

/-! ### comprehensions -/
/-- over the items: what is made so far -/
def lcD (g : TGD) (tt : TTD) (te : TED) (σ : SD) (keep : HD → Prop) (Q : List D → HD → Prop) : List D → List D → HD → Prop
  | [], acc, S => keep S ∧ Q acc S
  | d :: r, acc, S => keep S ∧ g d σ S fun σ2 S2 => tt σ2 S2 fun b S3 => if b = true then te σ2 S3 fun y S4 => lcD g tt te σ keep Q r (acc ++ [y]) S4 else lcD g tt te σ keep Q r acc S3
def tYesD : TTD := fun _ S Q => Q true S
abbrev DTs (X : Cx) (ifs : List Expr) (t : TTD) : Prop := PTs X ifs (upT X.K t)
theorem _root_.L2.PTs.imp {X : Cx} {e : List Expr} {t t' : TT} (h : PTs X e t) (i : ∀ σ H Q, t' σ H Q → t σ H Q) : PTs X e t' := ⟨fun pins s σ H Q I q => h.run pins s σ H Q I (i _ _ _ q)⟩
theorem dts_nil {X : Cx} : DTs X [] tYesD := pts_nil.imp fun σ H Q ⟨G, σd, S, Qd, rs, rh, t, p⟩ => p.here rh t
theorem dts_one {X : Cx} {c : Expr} {t : TTD} (h : DT X c t) : DTs X [c] t := pts_one h
def tLcV (ti : TID) (g : TGD) (tt : TTD) (te : TED) (vs : List Nat) : TED := fun σ S Q => ti σ S fun xs keep S1 => xs.length ≤ sizeLine ∧ lcD g tt te (wipeD σ vs) keep (fun acc S2 => Q (.lst acc) S2) xs [] S1
def tLcR (ti : TID) (g : TGD) (tt : TTD) (te : TED) (vs : List Nat) : TED := fun σ S Q => ti σ S fun xs keep S1 => xs.length ≤ sizeLine ∧ lcD g tt te (wipeD σ vs) keep (fun acc S2 => ∀ p, S2.hp p = none → Q (.ref p) (S2.set p (.lst acc))) xs [] S1
/-- targets that store into the block's own slots alone -/
def upGw (K : PySem.W.Frag) (ws : List Nat) (t : TGD) : TG := fun v σ H Q => ∃ G σd S d Qd, RSl K G S H σd σ ∧ RH K G S H ∧ RD K G S H d v ∧ t d σd S Qd ∧ ∀ S' σd' σ' H', FL S H S' H' → RH K G S' H' → RSl K G S' H' σd' σ' → wipe σ' ws = wipe σ ws → Qd σd' S' → Q σ' H'
def upGsw (K : PySem.W.Frag) (ws : List Nat) (t : TGsD) : TGs := fun vs σ H Q => ∃ G σd S ds Qd, RSl K G S H σd σ ∧ RH K G S H ∧ RDs K G S H ds vs ∧ t ds σd S Qd ∧ ∀ S' σd' σ' H', FL S H S' H' → RH K G S' H' → RSl K G S' H' σd' σ' → wipe σ' ws = wipe σ ws → Qd σd' S' → Q σ' H'
abbrev DGw (X : Cx) (ws : List Nat) (tg : Expr) (t : TGD) : Prop := PG X tg (upGw X.K ws t)
abbrev DGsw (X : Cx) (ws : List Nat) (tg : List Expr) (t : TGsD) : Prop := PGs X tg (upGsw X.K ws t)
theorem wipe_set {i : Nat} {v : Option V} : ∀ {ws : List Nat} {σ : L2.St}, i ∈ ws → wipe (σ.set i v) ws = wipe σ ws
  | [], _, h => by cases h
  | w :: ws, σ, h => by
    unfold wipe
    by_cases hw : i ∈ ws
    · rw [wipe_set hw]
    · obtain rfl : i = w := by
        rcases List.mem_cons.mp h with e | e
        · exact e
        · exact absurd e hw
      have : ∀ (us : List Nat) (τ : L2.St), i ∉ us → wipe (τ.set i v) us = (wipe τ us).set i v := by
        intro us
        induction us with
        | nil => intro τ _; rfl
        | cons u us ih =>
          intro τ hu
          unfold wipe
          rw [ih τ (fun z => hu (List.mem_cons_of_mem _ z)), List.set_comm _ _ (fun z => hu (by rw [z]; exact List.mem_cons_self))]
      rw [this ws σ hw, List.set_set]
theorem dgw_name {X : Cx} (i : Nat) {ws : List Nat} {e : Expr} (hw : i ∈ ws) (h : PG X e (gName i)) : DGw X ws e (gNameD i) :=
  h.imp fun v σ H Q ⟨G, σd, S, d, Qd, rs, rh, q, t, p⟩ => p S _ _ H (.refl _ _) rh (by rw [st_eq]; exact rs.set q i) (wipe_set hw) t
theorem dgsw_nil {X : Cx} {ws : List Nat} : DGsw X ws [] gNilD := pgs_nil.imp fun vs σ H Q ⟨G, σd, S, ds, Qd, rs, rh, q, ⟨e, t⟩, p⟩ => by
  subst e
  cases q
  exact ⟨rfl, p S _ _ H (.refl _ _) rh rs rfl t⟩
theorem dgsw_cons {X : Cx} {ws : List Nat} {e : Expr} {es : List Expr} {t : TGD} {u : TGsD} (h1 : DGw X ws e t) (h2 : DGsw X ws es u)
    (hs : (assignEach (e :: es) X.env).map (·.2) = assign e X.env :: (assignEach es X.env).map (·.2) := by rfl) : DGsw X ws (e :: es) (gConsD t u) :=
  (pgs_cons h1 h2 hs).imp fun vs σ H Q ⟨G, σd, S, ds, Qd, rs, rh, q, tt, p⟩ => by
    cases q with
    | nil => exact tt.elim
    | cons q qs =>
      exact ⟨_, _, rfl, G, σd, S, _, _, rs, rh, q, tt, fun S1 σd1 σ1 H1 f1 rh1 rs1 w1 q1 => ⟨G, σd1, S1, _, Qd, rs1, rh1, qs.fl f1, q1, fun S2 σd2 σ2 H2 f2 rh2 rs2 w2 q2 => p S2 σd2 σ2 H2 (f1.trans f2) rh2 rs2 (w2.trans w1) q2⟩⟩
theorem dgw_tup {X : Cx} {ws : List Nat} {es : List Expr} {k : Nat} {t : TGsD} {n : Nat} {pos : Pos} (hc : X.calm = true) (h : DGsw X ws es t)
    (hn : (assignEach es X.env).length = n := by rfl) (hst : (assignEach es X.env).findIdx? (·.1) = none := by rfl) : DGw X ws (.Tuple es k pos) (gTupD n t) :=
  (pg_tup hc h hn hst).imp fun v σ H Q ⟨G, σd, S, d, Qd, rs, rh, q, tt, p⟩ => by
    cases q with
    | @tup a vs ds h r =>
      obtain ⟨l, tt⟩ := tt
      exact ⟨a, vs, rfl, h.sq, r.length ▸ l, G, σd, S, _, _, rs, rh, r, tt, p⟩
    | _ => exact tt.elim

section
variable {K : PySem.W.Frag} {G : Addr → Prop} {S : HD} {H : Hp}
def Res (G : Addr → Prop) (p : Addr) : Addr → Prop := fun b => G b ∨ b = p
/-- a place that is held back may change: nothing names it -/
theorem res_mv {p : Addr} {o : HO} : Mv (Res G p) S H (Res G p) S (upd H p o) := ⟨fun a u e z => ⟨z, by rw [upd_ne (fun q => z.2.2 (.inr q))]; exact e⟩, fun _ e => e⟩
theorem RH.res (r : RH K G S H) {p : Addr} (h : H p = none) (o : HO) : RH K (Res G p) S (upd H p o) where
  hp := fun a u e => by
    obtain ⟨h1, h2, h3⟩ := (r.grow (Grow.upd h (o := o))).hp a u e
    have ne : a ≠ p := fun z => by rw [z, (r.fresh h).1] at e; cases e
    refine ⟨h1, fun z => z.elim h2 ne, ?_⟩
    obtain ⟨_, _, h3'⟩ := r.hp a u e
    exact h3'.mv (m := ⟨fun b w q z => by
      have nb := ne_of_none q h
      exact ⟨⟨z.1, z.2.1, fun g => g.elim z.2.2 nb⟩, by rw [upd_ne nb]; exact q⟩, fun _ q => q⟩) (upd_ne ne)
  rs := fun a g => by
    rcases g with g | g
    · obtain ⟨⟨u, e⟩, d⟩ := r.rs a g
      exact ⟨⟨u, (Grow.upd h).kp a u e⟩, d⟩
    · subst g
      exact ⟨⟨o, upd_same⟩, (r.fresh h).2.1⟩
  dk := (r.grow (Grow.upd h (o := o))).dk
/-- into the block -/
theorem res_in {p : Addr} {o : HO} (h : H p = none) : Mv G S H (Res G p) S (upd H p o) := ⟨fun b w q z => by
  have nb := ne_of_none q h
  exact ⟨⟨z.1, z.2.1, fun g => g.elim z.2.2 nb⟩, by rw [upd_ne nb]; exact q⟩, fun _ q => q⟩
/-- the held place is written -/
theorem RH.resW (r : RH K (Res G p) S H) (o : HO) : RH K (Res G p) S (upd H p o) where
  hp := fun a u e => by
    obtain ⟨h1, h2, h3⟩ := r.hp a u e
    exact ⟨h1, h2, h3.mv res_mv (upd_ne fun z => h2 (.inr z))⟩
  rs := fun a g => by
    obtain ⟨⟨u, e⟩, d⟩ := r.rs a g
    by_cases ha : a = p
    · subst ha; exact ⟨⟨o, upd_same⟩, d⟩
    · exact ⟨⟨u, by rw [upd_ne ha]; exact e⟩, d⟩
  dk := fun a b e => by
    obtain ⟨h1, h2, h3, cs, n, h4, h5, h6⟩ := r.dk a b e
    have hp := (r.rs p (.inr rfl)).2
    have na : a ≠ p := fun z => hp ⟨_, e, .inl z.symm⟩
    have nb : b ≠ p := fun z => hp ⟨_, e, .inr z.symm⟩
    exact ⟨h1, h2, h3, cs, n, by rw [upd_ne na]; exact h4, by rw [upd_ne nb]; exact h5, h6⟩
/-- out of the block: the place is free to be named -/
theorem res_out {p : Addr} : Mv (Res G p) S H G S H := ⟨fun a o e z => ⟨⟨z.1, z.2.1, fun g => z.2.2 (.inl g)⟩, e⟩, fun _ e => e⟩
theorem RH.resOut (r : RH K (Res G p) S H) : RH K G S H where
  hp := fun a u e => by
    obtain ⟨h1, h2, h3⟩ := r.hp a u e
    exact ⟨h1, fun g => h2 (.inl g), h3.mv res_out rfl⟩
  rs := fun a g => r.rs a (.inl g)
  dk := r.dk
theorem RH.resFree (r : RH K (Res G p) S H) : S.hp p = none ∧ ¬ Dk S p := by
  refine ⟨?_, (r.rs p (.inr rfl)).2⟩
  cases e : S.hp p with
  | none => rfl
  | some o => exact ((r.hp p o e).2.1 (.inr rfl)).elim
end

section
variable {X : Cx} {elt tg iter : Expr} {ifs : List Expr} {scope : Scope} {own : List (Str × Nat)} {pos : Pos} {ti : TID} {g : TGD} {tt : TTD} {te : TED}
theorem FL.updp {S S' : HD} {H H' : Hp} {p : Addr} {o : HO} (f : FL S H S' H') (h : H p = none) : FL S H S' (upd H' p o) :=
  ⟨fun a u e n d => let ⟨n', d', e'⟩ := f.kp a u e n d; ⟨n', d', by rw [upd_ne (ne_of_none e h)]; exact e'⟩, f.dk⟩
/-- the loop of a comprehension, by the reading; Qf: what is wanted of the list at p -/
theorem lc_up {K : PySem.W.Frag} {vs : List Nat} {G : Addr → Prop} {S1 : HD} {H1 : Hp} {σd : SD} {σ : L2.St} {J : It} {xs : List D} {keep : HD → Prop} {Qd : List D → HD → Prop} {Q : VK}
    (rs1 : RSl K G S1 H1 σd σ) (rh1 : RH K G S1 H1) (hJ : ∀ G' S2 H2, Mv G S1 H1 G' S2 H2 → RH K G' S2 H2 → ItOk K G' S2 H2 J xs keep) (hz : xs.length ≤ sizeLine)
    (t : lcD g tt te (wipeD σd vs) keep Qd xs [] S1) {p : Addr} (hp : H1 p = none)
    (fin : ∀ S2 H2 accd acc, FL S1 H1 S2 H2 → RH K (Res G p) S2 H2 → H2 p = some (.lst acc) → RDs K (Res G p) S2 H2 accd acc → Qd accd S2 → Q (.ref p) H2) :
    ∃ W : Nat → Nat → Hp → Prop, (∃ m, W 0 m (upd H1 p (.lst []))) ∧ ∀ i m H, W i m H →
      (J.stop i H ∧ Q (.ref p) H) ∨ (J.go i H ∧ ∃ Nx : Hp → Prop, (∀ H', Nx H' → ∃ m', m' < m ∧ W (i + 1) m' H') ∧ ∀ x H', J.yld i H x H' → upGw K vs g x (wipe σ vs) H' fun σ2 H2 => wipe σ2 vs = wipe σ vs ∧ upT K tt σ2 H2 fun b H3 =>
        if b = true then up K te σ2 H3 fun y H4 => ∃ acc, H4 p = some (.lst acc) ∧ acc.length < sizeLine ∧ Nx (upd H4 p (.lst (acc ++ [y]))) else Nx H3) := by
  have wipe2 : ∀ (us : List Nat) (τ : L2.St), wipe (wipe τ us) us = wipe τ us := by
    intro us τ
    have key : ∀ (ws : List Nat) (τ : L2.St), (∀ u ∈ us, u ∈ ws) → wipe (wipe τ us) ws = wipe τ ws := by
      induction us with
      | nil => intro ws τ _; rfl
      | cons u us ih =>
        intro ws τ h
        show wipe ((wipe τ us).set u none) ws = _
        rw [wipe_set (h u List.mem_cons_self)]
        exact ih ws τ fun v hv => h v (List.mem_cons_of_mem _ hv)
    exact key us τ fun _ h => h
  refine ⟨fun i m H => m = xs.length - i ∧ i ≤ xs.length ∧ ∃ S2 accd acc, FL S1 H1 S2 H ∧ RH K (Res G p) S2 H ∧ H p = some (.lst acc) ∧ RDs K (Res G p) S2 H accd acc ∧ RSl K (Res G p) S2 H (wipeD σd vs) (wipe σ vs) ∧ acc.length ≤ i ∧ lcD g tt te (wipeD σd vs) keep Qd (xs.drop i) accd S2,
    ⟨xs.length, by simp, Nat.zero_le _, S1, [], [], (Grow.upd hp).fl, rh1.res hp _, upd_same, .nil, (rs1.wipe vs).mv (res_in hp), Nat.zero_le _, t⟩, ?_⟩
  rintro i m H ⟨rfl, hi, S2, accd, acc, f2, rh2, hacc, racc, rsl2, hlen, t2⟩
  have ok := hJ (Res G p) S2 H ⟨fun a o e z => let ⟨n1, n2, n3⟩ := f2.kp a o e z.1 z.2.1; ⟨⟨n1, n2, fun g => g.elim z.2.2 (ne_of_none e hp)⟩, n3⟩, f2.dk⟩ rh2
  by_cases hlt : i < xs.length
  · have hx : xs[i]? = some xs[i] := by simp [hlt]
    rw [List.drop_eq_getElem_cons hlt] at t2
    obtain ⟨k2, t2⟩ := t2
    obtain ⟨go, yl⟩ := ok.go i _ S2 H hx (.refl _ _) rh2 k2
    refine .inr ⟨go, fun H' => ∃ S2 accd acc, FL S1 H1 S2 H' ∧ RH K (Res G p) S2 H' ∧ H' p = some (.lst acc) ∧ RDs K (Res G p) S2 H' accd acc ∧ RSl K (Res G p) S2 H' (wipeD σd vs) (wipe σ vs) ∧ acc.length ≤ i + 1 ∧ lcD g tt te (wipeD σd vs) keep Qd (xs.drop (i + 1)) accd S2, fun H' n => ⟨_, by omega, rfl, hlt, n⟩, fun x H3 y => ?_⟩
    obtain ⟨f3, rh3, q3⟩ := yl x H3 y
    have pk : ∀ {S5 : HD} {H5 : Hp}, FL S2 H S5 H5 → H5 p = some (.lst acc) := fun {S5 H5} f => (f.kp p _ hacc (RH.resFree rh2).1 (RH.resFree rh2).2).2.2
    refine ⟨Res G p, _, S2, _, _, rsl2.fl f3, rh3, q3, t2, fun S4 σd4 σ4 H4 f4 rh4 rs4 w4 t4 => ⟨?_, ?_⟩⟩
    · rw [wipe2] at w4; exact w4
    refine ⟨Res G p, σd4, S4, _, rs4, rh4, t4, fun S5 b H5 f5 rh5 t5 => ?_⟩
    have f25 := f3.trans (f4.trans f5)
    have f15 := f2.trans f25
    cases b with
    | false =>
      refine iteF ?_
      rw [if_neg Bool.false_ne_true] at t5
      exact ⟨S5, accd, acc, f15, rh5, pk f25, racc.fl f25, rsl2.fl f25, Nat.le_succ_of_le hlen, t5⟩
    | true =>
      refine iteT ?_
      rw [if_pos rfl] at t5
      refine ⟨Res G p, σd4, S5, _, rs4.fl f5, rh5, t5, fun S6 d v H6 f6 rh6 q6 t6 => ?_⟩
      have f26 := f25.trans f6
      refine ⟨acc, pk f26, by omega, S6, accd ++ [d], acc ++ [v], (f2.trans f26).updp hp, rh6.resW _, upd_same, ((racc.fl f26).append (.cons q6 .nil)).mv res_mv, (rsl2.fl f26).mv res_mv, by simp; omega, t6⟩
  · have e : i = xs.length := by omega
    subst e
    rw [List.drop_length] at t2
    exact .inl ⟨ok.stop S2 H (.refl _ _) rh2 t2.1, fin S2 H accd acc f2 rh2 hacc racc t2.2⟩
theorem de_lcV (hN : X.N.Nodup) (hi : DI X tg iter ti) (ok : BlkOk X.N X.env.scope scope own)
    (hg : ∀ (s : Shared) (H : Hp) (C : Addr) (cl : List (Str × Addr)) (fp : List Addr), DGw (X.blk s H scope (compEnvC scope cl C X.env) fp) (own.map (·.2)) tg g) (ht : ∀ (s : Shared) (H : Hp) (C : Addr) (cl : List (Str × Addr)) (fp : List Addr), DTs (X.blk s H scope (compEnvC scope cl C X.env) fp) ifs tt)
    (he : ∀ (s : Shared) (H : Hp) (C : Addr) (cl : List (Str × Addr)) (fp : List Addr), DE (X.blk s H scope (compEnvC scope cl C X.env) fp) elt te) (hc : X.calm = true := by rfl) (hs : ∀ x, foldedSetIterable iter X.env x = pure x := by intro _; rfl) :
    DE X (.ListComp elt [⟨tg, iter, ifs, 0⟩] scope pos) (tLcV ti g tt te (own.map (·.2))) :=
  (pe_lc hc hN hi ok hg ht he hs).imp fun σ H Q ⟨G, σd, S, Qd, rs, rh, t, p⟩ =>
    ⟨G, σd, S, _, rs, rh, t, fun S1 J xs keep H1 f1 rh1 hJ ⟨hz, t1⟩ q hq => lc_up (rs.fl f1) rh1 hJ hz t1 hq fun S2 H2 accd acc f2 rh2 hacc racc qd =>
      p S2 _ _ H2 (f1.trans f2) rh2.resOut (.lst (.inl ⟨⟨(RH.resFree rh2).1, (RH.resFree rh2).2, fun g => by
        obtain ⟨⟨o, e⟩, _⟩ := rh1.rs q g
        rw [hq] at e; cases e⟩, .inl hacc⟩) (racc.mv res_out)) qd⟩
theorem up_lcR {K : PySem.W.Frag} {vs : List Nat} {Q : VK} {Qd : QD} {G : Addr → Prop} {S : HD} {H : Hp} (rh : RH K G S H) (p : Post K G S H Qd Q) {S1 : HD} {H1 : Hp} (f1 : FL S H S1 H1) (rh1 : RH K G S1 H1) {q : Addr} (hq : H1 q = none)
    {S2 : HD} {H2 : Hp} {accd : List D} {acc : List V} (f2 : FL S1 H1 S2 H2) (rh2 : RH K (Res G q) S2 H2) (hacc : H2 q = some (.lst acc)) (racc : RDs K (Res G q) S2 H2 accd acc) (qd : ∀ p, S2.hp p = none → Qd (.ref p) (S2.set p (.lst accd))) : Q (.ref q) H2 := by
  have n2 := (RH.resFree rh2).1
  have d2 := (RH.resFree rh2).2
  have mv : Mv (Res G q) S2 H2 G (S2.set q (.lst accd)) H2 := ⟨fun a o e z => by
    have ne : a ≠ q := fun w => z.2.2 (.inr w)
    exact ⟨⟨by rw [HD.set_ne ne]; exact z.1, z.2.1, fun g => z.2.2 (.inl g)⟩, e⟩, fun _ e => e⟩
  have ngq : ¬ G q := fun g => by
    obtain ⟨⟨o, e⟩, _⟩ := rh1.rs q g
    rw [hq] at e; cases e
  have rh3 : RH K G (S2.set q (.lst accd)) H2 := by
    refine ⟨fun a u e => ?_, fun a g => rh2.rs a (.inl g), fun a b e => ?_⟩
    · by_cases ha : a = q
      · subst ha
        rw [HD.set_same] at e; cases e
        exact ⟨d2, ngq, acc, hacc, racc.mv mv⟩
      · rw [HD.set_ne ha] at e
        obtain ⟨h1, h2, h3⟩ := rh2.hp a u e
        exact ⟨h1, fun g => h2 (.inl g), h3.mv mv rfl⟩
    · obtain ⟨h1, h2, h3, h4⟩ := rh2.dk a b e
      have na : a ≠ q := fun z => d2 ⟨_, e, .inl z.symm⟩
      have nb : b ≠ q := fun z => d2 ⟨_, e, .inr z.symm⟩
      exact ⟨h1, by rw [HD.set_ne na]; exact h2, by rw [HD.set_ne nb]; exact h3, h4⟩
  have f3 : FL S1 H1 (S2.set q (.lst accd)) H2 := ⟨fun a o e n d => by
    obtain ⟨n', d', e'⟩ := f2.kp a o e n d
    exact ⟨by rw [HD.set_ne (ne_of_none e hq)]; exact n', d', e'⟩, f2.dk⟩
  exact p _ _ _ H2 (f1.trans f3) rh3 (.ref q) (qd q n2)
theorem de_lcR (hN : X.N.Nodup) (hi : DI X tg iter ti) (ok : BlkOk X.N X.env.scope scope own)
    (hg : ∀ (s : Shared) (H : Hp) (C : Addr) (cl : List (Str × Addr)) (fp : List Addr), DGw (X.blk s H scope (compEnvC scope cl C X.env) fp) (own.map (·.2)) tg g) (ht : ∀ (s : Shared) (H : Hp) (C : Addr) (cl : List (Str × Addr)) (fp : List Addr), DTs (X.blk s H scope (compEnvC scope cl C X.env) fp) ifs tt)
    (he : ∀ (s : Shared) (H : Hp) (C : Addr) (cl : List (Str × Addr)) (fp : List Addr), DE (X.blk s H scope (compEnvC scope cl C X.env) fp) elt te) (hc : X.calm = true := by rfl) (hs : ∀ x, foldedSetIterable iter X.env x = pure x := by intro _; rfl) :
    DE X (.ListComp elt [⟨tg, iter, ifs, 0⟩] scope pos) (tLcR ti g tt te (own.map (·.2))) :=
  (pe_lc hc hN hi ok hg ht he hs).imp fun σ H Q ⟨G, σd, S, Qd, rs, rh, t, p⟩ =>
    ⟨G, σd, S, _, rs, rh, t, fun S1 J xs keep H1 f1 rh1 hJ ⟨hz, t1⟩ q hq => lc_up (rs.fl f1) rh1 hJ hz t1 hq fun S2 H2 accd acc f2 rh2 hacc racc qd => up_lcR rh p f1 rh1 hq f2 rh2 hacc racc qd (vs := [])⟩
/-- name = [..] -/
theorem ds_setLcV (i : Nat) {y : Str} {py spos : Pos} (hN : X.N.Nodup) (hi : DI X tg iter ti) (ok : BlkOk X.N X.env.scope scope own)
    (hg : ∀ (s : Shared) (H : Hp) (C : Addr) (cl : List (Str × Addr)) (fp : List Addr), DGw (X.blk s H scope (compEnvC scope cl C X.env) fp) (own.map (·.2)) tg g) (ht : ∀ (s : Shared) (H : Hp) (C : Addr) (cl : List (Str × Addr)) (fp : List Addr), DTs (X.blk s H scope (compEnvC scope cl C X.env) fp) ifs tt)
    (he : ∀ (s : Shared) (H : Hp) (C : Addr) (cl : List (Str × Addr)) (fp : List Addr), DE (X.blk s H scope (compEnvC scope cl C X.env) fp) elt te) (hy : X.N[i]? = some y := by rfl) (hyl : X.env.scope.names.lookup y = some .local := by rfl)
    (hsw : swapsWith (.ListComp elt [⟨tg, iter, ifs, 0⟩] scope pos) (some (.Name y py)) spos.line X.env = pure true := by exact sw_true rfl rfl rfl (by decide +kernel)) (hc : X.calm = true := by rfl) (hs : ∀ x, foldedSetIterable iter X.env x = pure x := by intro _; rfl) :
    DS X (.Assign [.Name y py] (.ListComp elt [⟨tg, iter, ifs, 0⟩] scope pos) spos) (sAsgD (tLcV ti g tt te (own.map (·.2))) (gNameD i)) :=
  (ps_setLc hc hN hy hyl hsw hi ok hg ht he hs).imp fun E σ H ⟨G, σd, S, Dd, rs, rh, t, p⟩ =>
    ⟨G, σd, S, _, rs, rh, t, fun S1 J xs keep H1 f1 rh1 hJ ⟨hz, t1⟩ q hq => lc_up (Q := fun x H2 => gName i x σ H2 E.nx) (rs.fl f1) rh1 hJ hz t1 hq fun S2 H2 accd acc f2 rh2 hacc racc qd =>
      p.nx S2 _ _ H2 (f1.trans f2) rh2.resOut ((rs.fl (f1.trans f2)).set (d := .lst accd) (.lst (.inl ⟨⟨(RH.resFree rh2).1, (RH.resFree rh2).2, fun g => by
        obtain ⟨⟨o, e⟩, _⟩ := rh1.rs q g
        rw [hq] at e; cases e⟩, .inl hacc⟩) (racc.mv res_out)) i) (st_eq σd i _ ▸ qd)⟩
theorem ds_setLcR (i : Nat) {y : Str} {py spos : Pos} (hN : X.N.Nodup) (hi : DI X tg iter ti) (ok : BlkOk X.N X.env.scope scope own)
    (hg : ∀ (s : Shared) (H : Hp) (C : Addr) (cl : List (Str × Addr)) (fp : List Addr), DGw (X.blk s H scope (compEnvC scope cl C X.env) fp) (own.map (·.2)) tg g) (ht : ∀ (s : Shared) (H : Hp) (C : Addr) (cl : List (Str × Addr)) (fp : List Addr), DTs (X.blk s H scope (compEnvC scope cl C X.env) fp) ifs tt)
    (he : ∀ (s : Shared) (H : Hp) (C : Addr) (cl : List (Str × Addr)) (fp : List Addr), DE (X.blk s H scope (compEnvC scope cl C X.env) fp) elt te) (hy : X.N[i]? = some y := by rfl) (hyl : X.env.scope.names.lookup y = some .local := by rfl)
    (hsw : swapsWith (.ListComp elt [⟨tg, iter, ifs, 0⟩] scope pos) (some (.Name y py)) spos.line X.env = pure true := by exact sw_true rfl rfl rfl (by decide +kernel)) (hc : X.calm = true := by rfl) (hs : ∀ x, foldedSetIterable iter X.env x = pure x := by intro _; rfl) :
    DS X (.Assign [.Name y py] (.ListComp elt [⟨tg, iter, ifs, 0⟩] scope pos) spos) (sAsgD (tLcR ti g tt te (own.map (·.2))) (gNameD i)) :=
  (ps_setLc hc hN hy hyl hsw hi ok hg ht he hs).imp fun E σ H ⟨G, σd, S, Dd, rs, rh, t, p⟩ =>
    ⟨G, σd, S, _, rs, rh, t, fun S1 J xs keep H1 f1 rh1 hJ ⟨hz, t1⟩ q hq => lc_up (Q := fun x H2 => gName i x σ H2 E.nx) (rs.fl f1) rh1 hJ hz t1 hq fun S2 H2 accd acc f2 rh2 hacc racc qd =>
      up_lcR (Qd := fun d S2 => gNameD i d σd S2 Dd.nx) (Q := fun x H2 => gName i x σ H2 E.nx) (vs := []) rh (fun S3 d v H3 f3 rh3 q3 t3 => p.nx S3 _ _ H3 f3 rh3 ((rs.fl f3).set q3 i) (st_eq σd i d ▸ t3)) f1 rh1 hq f2 rh2 hacc racc qd⟩
end
end PD
end

section
/-! PD5: operators, items, slices, built-in calls over deep values; what a loop walks. -/
namespace PD
open PySem PySem.Spec PyProof.Rows L2

/-! ### sizes that every heap keeps -/
def Szs (K : PySem.W.Frag) (H : Hp) : Prop := (∀ a xs, SqL K H a xs → xs.length ≤ sizeLine) ∧ ∀ a xs, SqT K H a xs → xs.length ≤ sizeLine
theorem szs_of {X : Cx} {pins : List (Addr × Obj)} {σ : L2.St} {H : Hp} {s : Shared} (I : Inv X pins σ H s) : Szs X.K H :=
  ⟨fun a xs h => (I.list h).choose_spec.2.2, fun a xs h => (I.tuple h).choose_spec.2.2⟩
theorem _root_.L2.PE.szs {X : Cx} {e : Expr} {t : TE} (h : PE X e t) : PE X e (fun σ H Q => t σ H fun v H1 => Szs X.K H1 → Q v H1) :=
  ⟨fun pins s σ H Q I q => thn (h.run pins s σ H _ I q) fun u s1 ⟨v, H1, I1, r, q1⟩ => ⟨v, H1, I1, r, q1 (szs_of I1)⟩⟩

/-! ### a sequence, by its items -/
def asSeq (S : HD) : D → Option (List D)
  | .tup xs => some xs
  | .lst xs => some xs
  | .ref a => match S.hp a with
    | some (.lst xs) => some xs
    | _ => none
  | _ => none
def asLst (S : HD) : D → Option (List D)
  | .lst xs => some xs
  | .ref a => match S.hp a with
    | some (.lst xs) => some xs
    | _ => none
  | _ => none
section
variable {K : PySem.W.Frag} {G : Addr → Prop} {S : HD} {H : Hp}
theorem asLst_ok (rh : RH K G S H) {d : D} {v : V} {xs : List D} (h : asLst S d = some xs) (q : RD K G S H d v) : ∃ p vs, v = .ref p ∧ SqL K H p vs ∧ RDs K G S H xs vs := by
  cases q with
  | lst h1 r => cases h; exact ⟨_, _, rfl, h1.sq, r⟩
  | ref a =>
    simp only [asLst] at h
    split at h
    · rename_i ys e
      cases h
      obtain ⟨_, _, vs, e1, r⟩ := rh.hp a _ e
      exact ⟨a, vs, rfl, SqL.of e1, r⟩
    · cases h
  | _ => cases h
theorem asSeq_ok (rh : RH K G S H) {d : D} {v : V} {xs : List D} (h : asSeq S d = some xs) (q : RD K G S H d v) : ∃ p vs, v = .ref p ∧ (SqL K H p vs ∨ SqT K H p vs) ∧ RDs K G S H xs vs := by
  cases d with
  | tup ys =>
    cases h
    cases q with
    | tup h1 r => exact ⟨_, _, rfl, .inr h1.sq, r⟩
  | lst ys => obtain ⟨p, vs, e, h1, r⟩ := asLst_ok (xs := xs) rh (show asLst S (.lst ys) = some xs from h) q; exact ⟨p, vs, e, .inl h1, r⟩
  | ref a => obtain ⟨p, vs, e, h1, r⟩ := asLst_ok (xs := xs) rh (show asLst S (.ref a) = some xs from h) q; exact ⟨p, vs, e, .inl h1, r⟩
  | _ => cases h
end

/-! ### + - * // % ** -/
/-- list + list for any two lists that are read -/
def rCatK (K : PySem.W.Frag) : R2 := fun x y H Q => ∃ a b xs ys, x = .ref a ∧ y = .ref b ∧ SqL K H a xs ∧ SqL K H b ys ∧ xs.length + ys.length ≤ sizeLine ∧ ∀ p, H p = none → Q (.ref p) (upd H p (.lst (xs ++ ys)))
theorem op_catK {X : Cx} : OpR X (binaryOp .Add) (rCatK X.K) := by
  intro pins s σ H x y v u Q I rx ry h
  obtain ⟨a, b, xs, ys, rfl, rfl, ha, hb, hz, q⟩ := h
  cases rx
  cases ry
  obtain ⟨its, r1, p1, z1⟩ := I.list ha
  obtain ⟨its2, r2, p2, z2⟩ := I.list hb
  have l1 := r1.length
  have l2 := r2.length
  obtain ⟨⟨c1, dd1, dt1, sl1⟩, n1, e1, hc1, hd1, hdt1⟩ := p1
  obtain ⟨⟨c2, dd2, dt2, sl2⟩, n2, e2, hc2, hd2, hdt2⟩ := p2
  simp only at hc1 hd1 hdt1 hc2 hd2 hdt2
  subst hc1 hd1 hdt1 hc2 hd2 hdt2
  refine concat_meets ⟨_, e1, rfl⟩ ⟨_, e2, rfl⟩ noFill_list_add seq_list_add PySem.F.slot_list_add PySem.F.entry_list_add (PySem.F.args_list_add_2 _ _)
    (list_addW a b its.toArray its2.toArray n1 n2 none none sl1 sl2 (by simp only [List.size_toArray]; omega)) ⟨e1, e2, ?_⟩
  have ea : its.toArray ++ its2.toArray = (its ++ its2).toArray := by simp
  rw [ea]
  exact ⟨.ref _, _, I.lnew (t' := s.toks) (r1.append r2) (by rw [List.length_append]; exact hz), rfl, q _ I.fresh⟩
/-- ints, texts, tuples, lists -/
def rAddV (K : PySem.W.Frag) : R2 := fun x y H Q => (rI0 (fun i j => .int (i + j)) x y H Q) ∨ (∃ i j, x = .str i ∧ y = .str j ∧ i.length + j.length ≤ sizeLine ∧ Q (.str (i ++ j)) H) ∨ rCatA K x y H Q ∨ rCatK K x y H Q
theorem op_addV {X : Cx} : OpR X (binaryOp .Add) (rAddV X.K) := op_add.or (op_add_str.or (op_catA.or op_catK))
theorem op2_lst {K : PySem.W.Frag} {G : Addr → Prop} {S : HD} {H : Hp} {d1 d2 : D} {v1 v2 : V} {Qd : QD} {Q : VK} {xs ys : List D} (rh : RH K G S H) (q1 : RD K G S H d1 v1) (q2 : RD K G S H d2 v2) (p : Post K G S H Qd Q)
    (h1 : asLst S d1 = some xs) (h2 : asLst S d2 = some ys) (t : xs.length + ys.length ≤ sizeLine ∧ Qd (.lst (xs ++ ys)) S) : rAddV K v1 v2 H Q := by
  obtain ⟨a, vs, rfl, l1, r1⟩ := asLst_ok rh h1 q1
  obtain ⟨b, ws, rfl, l2, r2⟩ := asLst_ok rh h2 q2
  exact .inr (.inr (.inr ⟨a, b, vs, ws, rfl, rfl, l1, l2, by rw [← r1.length, ← r2.length]; exact t.1, fun q hq => p.newL rh (r1.append r2) t.2 hq⟩))
def rAddD : R2D := fun x y S Q => match x, y with
  | .int i, .int j => Q (.int (i + j)) S
  | .str a, .str b => a.length + b.length ≤ sizeLine ∧ Q (.str (a ++ b)) S
  | .tup a, .tup b => a.length + b.length ≤ sizeLine ∧ Q (.tup (a ++ b)) S
  | x, y => match asLst S x, asLst S y with
    | some xs, some ys => xs.length + ys.length ≤ sizeLine ∧ Q (.lst (xs ++ ys)) S
    | _, _ => False
theorem add2 {K : PySem.W.Frag} : Op2 K (rAddV K) rAddD := by
  intro G S H d1 d2 v1 v2 Qd Q rh q1 q2 t p
  unfold rAddD at t
  split at t
  · cases q1; cases q2; exact .inl ⟨_, _, rfl, rfl, p.here rh (.int _) t⟩
  · cases q1; cases q2; exact .inr (.inl ⟨_, _, rfl, rfl, t.1, p.here rh (.str _) t.2⟩)
  · rename_i a b
    cases q1 with
    | @tup a1 vs _ h1 r1 =>
      cases q2 with
      | @tup a2 ws _ h2 r2 =>
        refine .inr (.inr (.inl ⟨a1, a2, vs, ws, rfl, rfl, h1.sq, h2.sq, by rw [← r1.length, ← r2.length]; exact t.1, fun e => ?_, fun e1 e2 => ?_, fun e1 e2 q hq => p.newT rh (r1.append r2) t.2 hq⟩))
        · subst e
          cases r1
          exact p.here rh (.tup h2 r2) t.2
        · subst e2
          cases r2
          exact p.here rh (.tup h1 r1) (by simpa using t.2)
  · split at t
    · rename_i xs ys e1 e2
      exact op2_lst rh q1 q2 p e1 e2 t
    · exact t.elim
section
variable {X : Cx} {a b : Expr} {ta tb : TED} {pos : Pos}
theorem de_add (ha : DE X a ta) (hb : DE X b tb) : DE X (.BinOp a .Add b pos) (tBin rAddD ta tb) := de_op op_addV add2 ha hb
def rSubD : R2D := fun x y S Q => match x, y with
  | .int i, .int j => Q (.int (i - j)) S
  | _, _ => False
theorem de_sub (ha : DE X a ta) (hb : DE X b tb) : DE X (.BinOp a .Sub b pos) (tBin rSubD ta tb) := de_op op_sub (fun G S H d1 d2 v1 v2 Qd Q rh q1 q2 t p => by
  unfold rSubD at t
  split at t
  · cases q1; cases q2; exact ⟨_, _, rfl, rfl, p.here rh (.int _) t⟩
  · exact t.elim) ha hb
/-- // by a positive number below 2^30, or any great ones that fit -/
def rFdivD : R2D := fun x y S Q => match x, y with
  | .int i, .int j => (0 < j ∧ j < 1073741824) ∧ Q (.int (i / j)) S
  | _, _ => False
theorem de_fdiv (ha : DE X a ta) (hb : DE X b tb) : DE X (.BinOp a .FloorDiv b pos) (tBin rFdivD ta tb) := de_op op_fdiv (fun G S H d1 d2 v1 v2 Qd Q rh q1 q2 t p => by
  unfold rFdivD at t
  split at t
  · cases q1; cases q2; exact ⟨_, _, rfl, rfl, t.1, p.here rh (.int _) t.2⟩
  · exact t.elim) ha hb
def rModD : R2D := fun x y S Q => match x, y with
  | .int i, .int j => 0 < j ∧ Q (.int (i % j)) S
  | _, _ => False
theorem de_mod (ha : DE X a ta) (hb : DE X b tb) : DE X (.BinOp a .Mod b pos) (tBin rModD ta tb) := de_op op_mod (fun G S H d1 d2 v1 v2 Qd Q rh q1 q2 t p => by
  unfold rModD at t
  split at t
  · cases q1; cases q2; exact ⟨_, _, rfl, rfl, t.1, p.here rh (.int _) t.2⟩
  · exact t.elim) ha hb
def rPowD : R2D := fun x y S Q => match x, y with
  | .int i, .int j => (0 ≤ j ∧ j ≤ 1000000 ∧ i.natAbs < 2 ^ 64) ∧ Q (.int (i ^ j.toNat)) S
  | _, _ => False
theorem de_pow (ha : DE X a ta) (hb : DE X b tb) : DE X (.BinOp a .Pow b pos) (tBin rPowD ta tb) := de_op op_pow (fun G S H d1 d2 v1 v2 Qd Q rh q1 q2 t p => by
  unfold rPowD at t
  split at t
  · cases q1; cases q2; exact ⟨_, _, rfl, rfl, t.1, p.here rh (.int _) t.2⟩
  · exact t.elim) ha hb

/-! ### list * int, tuple * int, text * int -/
def rRepK (K : PySem.W.Frag) : R2 := fun x y H Q => ∃ l k xs, x = .ref l ∧ y = .int k ∧ SqL K H l xs ∧ 0 ≤ k ∧ k < 2 ^ 60 ∧ xs.length * k.toNat ≤ sizeLine ∧ ∀ p, H p = none → Q (.ref p) (upd H p (.lst (List.replicate k.toNat xs).flatten))
theorem op_repK : OpR X (binaryOp .Mult) (rRepK X.K) := by
  intro pins s σ H x y v u Q I rx ry h
  obtain ⟨l, k, xs, rfl, rfl, hl, h1, h2, hz, q⟩ := h
  cases rx
  obtain ⟨t, rfl⟩ := ry
  obtain ⟨its, r, pl, z⟩ := I.list hl
  have hn := r.length
  obtain ⟨⟨c1, dd1, dt1, sl1⟩, n1, e1, hc1, hd1, hdt1⟩ := pl
  simp only at hc1 hd1 hdt1
  subst hc1 hd1 hdt1
  have hz' : its.toArray.size * k.toNat ≤ 2 ^ 24 := by rw [List.size_toArray, ← hn]; exact hz
  refine wpAny_binaryOp_repeat_ref (T := "list") (U := "int") (by decide) ⟨_, e1, rfl⟩ (fun s' => typeIs_int s' k t) noFill_list_mul F.fills_int_mul F.slot_int_rmul repeat_list F.slot_int_index.lookup
    (call_meets F.slot_int_rmul (typeIs_int s k t) F.entry_int_rmul (F.args_int_rmul_2 _ _) (lm_int_rmul_list_any k t l its.toArray n1 none sl1)
      ⟨e1, rfl, ⟨_, e1, rfl⟩, call_meets F.slot_list_mul ⟨_, e1, rfl⟩ F.entry_list_mul (F.args_list_mul_2 _ _)
        (lm_list_mul_any l its.toArray n1 none sl1 k t (by simp [Builtin.List.listFitsIndex]; omega) (by omega) (by simp [Builtin.List.listTooLong, sizeLine]; omega)) ⟨e1, ?_⟩⟩)
  rw [listMul_foldl_if]
  exact ⟨.ref _, _, I.lnew (t' := s.toks) (r.rep k.toNat) (by rw [List.length_flatten]; simpa [Nat.mul_comm] using hz), rfl, q _ I.fresh⟩
end
end PD
end

section
/-! PD5b: tuple * int of any count, text * int; the union of *. -/
namespace PD
open PySem PySem.Spec PyProof.Rows L2

theorem tuple_mul_same (l : Addr) (items : Array Value) (n : Nat) (dd : Option Addr) (sl : Array (Option Value)) (x : Int) (u : Tok) (c0 : (decide (x < -(2 ^ 63)) || decide (x ≥ 2 ^ 63)) = false) (c1 : (items.isEmpty || x == 1) = true) :
    Meets (Builtin.«tuple.__mul__» ⟨[.ref l, .int x u], []⟩) (fun _ R s => s.heap.get? l = some { cls := .type "tuple", dict := dd, data := .seq items n, slots := sl } ∧ R (.ok (.ret (Value.ref l))) s) :=
  .of_wp fun prog w A R s h => by
    obtain ⟨hp, g, d, tk, os⟩ := s
    obtain ⟨hl, h⟩ := h
    have f1 := AutoSeq1.idx_int
    wp_walk using wpAny_loadPart' hl
    repeat (first
      | (refine wpAny_ite_false (decide_eq_false (by rw [c0]; exact Bool.false_ne_true)) ?_; wp_walk using wpAny_loadPart' hl)
      | (refine wpAny_ite_true (decide_eq_true c1) ?_; wp_walk using wpAny_loadPart' hl))
    all_goals first | exact ⟨_, rfl, h⟩ | skip
theorem tuple_mul_zero (l : Addr) (items : Array Value) (n : Nat) (dd : Option Addr) (sl : Array (Option Value)) (x : Int) (u : Tok) (c0 : (decide (x < -(2 ^ 63)) || decide (x ≥ 2 ^ 63)) = false) (c1 : (items.isEmpty || x == 1) = false) (c2 : (decide (x ≤ 0) || items.isEmpty) = true) :
    Meets (Builtin.«tuple.__mul__» ⟨[.ref l, .int x u], []⟩) (fun _ R s => s.heap.get? l = some { cls := .type "tuple", dict := dd, data := .seq items n, slots := sl } ∧
      R (.ok (.ret (Value.ref s.heap.objs.size))) { s with heap := s.heap.push { cls := Value.type "tuple", data := Data.seq #[] }, toks := s.toks }) :=
  .of_wp fun prog w A R s h => by
    obtain ⟨hp, g, d, tk, os⟩ := s
    obtain ⟨hl, h⟩ := h
    have f1 := AutoSeq1.idx_int
    wp_walk using wpAny_loadPart' hl
    repeat (first
      | (refine wpAny_ite_false (decide_eq_false (by rw [c0]; exact Bool.false_ne_true)) ?_; wp_walk using wpAny_loadPart' hl)
      | (refine wpAny_ite_false (decide_eq_false (by rw [c1]; exact Bool.false_ne_true)) ?_; wp_walk using wpAny_loadPart' hl)
      | (refine wpAny_ite_true (decide_eq_true c2) ?_; wp_walk using wpAny_loadPart' hl))
    all_goals first | exact ⟨_, rfl, h⟩ | skip

/-- tuple * int, any count to 1000 -/
def rRepA (K : PySem.W.Frag) : R2 := fun x y H Q => ∃ l k xs, x = .ref l ∧ y = .int k ∧ SqT K H l xs ∧ -1000 ≤ k ∧ k ≤ 1000 ∧ xs.length ≤ 1000 ∧
  ((xs = [] ∨ k = 1) → Q (.ref l) H) ∧ (¬ (xs = [] ∨ k = 1) → ∀ p, H p = none → Q (.ref p) (upd H p (.tup (List.replicate k.toNat xs).flatten)))
theorem op_repA {X : Cx} : OpR X (binaryOp .Mult) (rRepA X.K) := by
  intro pins s σ H x y v u Q I rx ry h
  obtain ⟨l, k, xs, rfl, rfl, hT, h1, h2, hz, qs, qn⟩ := h
  by_cases hw : xs = [] ∨ k = 1
  · cases rx
    obtain ⟨t, rfl⟩ := ry
    obtain ⟨its, r, ⟨⟨cls, dd, data, sl⟩, ho, hc, n, hd⟩, hs⟩ := I.tuple hT
    simp only at hc hd
    subst hc hd
    have c0 : (decide (k < -(2 ^ 63)) || decide (k ≥ 2 ^ 63)) = false := by
      rw [decide_eq_false (by omega), decide_eq_false (by omega)] <;> rfl
    have c1 : (its.toArray.isEmpty || k == 1) = true := by
      rcases hw with e | e
      · subst e; cases r; rfl
      · subst e; simp
    exact wpAny_binaryOp_repeat_ref (T := "tuple") (U := "int") (by decide) ⟨_, ho, rfl⟩ (fun s' => typeIs_int s' k t) noFill_tuple_mul F.fills_int_mul F.slot_int_rmul repeat_tuple F.slot_int_index.lookup
      (call_meets F.slot_int_rmul (typeIs_int s k t) F.entry_int_rmul (F.args_int_rmul_2 _ _) (int_rmul_tuple k t l its.toArray n dd sl)
        ⟨ho, rfl, ⟨_, ho, rfl⟩, call_meets F.slot_tuple_mul ⟨_, ho, rfl⟩ F.entry_tuple_mul (F.args_tuple_mul_2 _ _) (tuple_mul_same l its.toArray n dd sl k t c0 c1) ⟨ho, .ref l, H, I, rfl, qs hw⟩⟩)
  · by_cases h0 : k ≤ 0
    · cases rx
      obtain ⟨t, rfl⟩ := ry
      obtain ⟨its, r, ⟨⟨cls, dd, data, sl⟩, ho, hc, n, hd⟩, hs⟩ := I.tuple hT
      simp only at hc hd
      subst hc hd
      have c0 : (decide (k < -(2 ^ 63)) || decide (k ≥ 2 ^ 63)) = false := by
        rw [decide_eq_false (by omega), decide_eq_false (by omega)] <;> rfl
      have c1 : (its.toArray.isEmpty || k == 1) = false := by
        have e2 : (k == 1) = false := beq_eq_false_iff_ne.mpr (by omega)
        rw [e2]
        cases r with
        | nil => exact absurd (.inl rfl) hw
        | cons _ _ => rfl
      have c2 : (decide (k ≤ 0) || its.toArray.isEmpty) = true := by rw [decide_eq_true h0]; rfl
      have hq := qn hw _ (I.hok.fresh (Nat.le_refl _))
      have e0 : k.toNat = 0 := by omega
      rw [e0] at hq
      refine wpAny_binaryOp_repeat_ref (T := "tuple") (U := "int") (by decide) ⟨_, ho, rfl⟩ (fun s' => typeIs_int s' k t) noFill_tuple_mul F.fills_int_mul F.slot_int_rmul repeat_tuple F.slot_int_index.lookup
        (call_meets F.slot_int_rmul (typeIs_int s k t) F.entry_int_rmul (F.args_int_rmul_2 _ _) (int_rmul_tuple k t l its.toArray n dd sl)
          ⟨ho, rfl, ⟨_, ho, rfl⟩, call_meets F.slot_tuple_mul ⟨_, ho, rfl⟩ F.entry_tuple_mul (F.args_tuple_mul_2 _ _) (tuple_mul_zero l its.toArray n dd sl k t c0 c1 c2) ⟨ho, ?_⟩⟩)
      exact ⟨.ref s.heap.objs.size, _, I.laid (t' := s.toks) (o := .tup []) (fun b ob q => Heap.get?_push_of_some _ q) (Nat.le_refl _) ⟨Nat.zero_le _, [], .nil, IsTup.new _ _⟩, rfl, hq⟩
    · exact op_repT pins s σ H _ _ v u Q I rx ry ⟨l, k, xs, rfl, rfl, hT, fun e => hw (.inl e), by omega, h2, hz, qn hw⟩
/-- text * int -/
def strRep (x : Str) (n : Nat) : Str := ⟨(List.replicate n x.cps).foldl (· ++ ·) #[]⟩
theorem strRep_len (x : Str) (n : Nat) : (strRep x n).length = x.length * n := by
  have key : ∀ (m : Nat) (acc : Array Nat), ((List.replicate m x.cps).foldl (· ++ ·) acc).size = acc.size + x.cps.size * m := by
    intro m
    induction m with
    | zero => intro acc; simp
    | succ m ih =>
      intro acc
      rw [List.replicate_succ, List.foldl_cons, ih, Array.size_append, Nat.mul_succ]
      omega
  have := key n #[]
  simp only [List.size_toArray, List.length_nil, Nat.zero_add] at this
  exact this
theorem op_repS {X : Cx} : OpR X (binaryOp .Mult) (fun x y H Q => ∃ z k, x = .str z ∧ y = .int k ∧ 0 ≤ k ∧ k ≤ 1000000 ∧ z.length * k.toNat ≤ sizeLine ∧ Q (.str (strRep z k.toNat)) H) := by
  intro pins s σ H x y v u Q I rx ry h
  obtain ⟨z, k, rfl, rfl, h1, h2, hz, q⟩ := h
  obtain ⟨t, rfl⟩ := rx
  obtain ⟨t', rfl⟩ := ry
  have hsl : sizeLine = 16777216 := rfl
  refine PySem.P.mul_str (by rw [decide_eq_false (by omega), decide_eq_false (by omega)]; rfl) (fun a b => ?_) (fun a b => ?_) ?_
  · have hb := Bool.or_eq_false_iff.mp b
    have hk : 2 ≤ k := by have := beq_eq_false_iff_ne.mp hb.1; omega
    have e1 : (z.length : Int) * k ≤ 16777216 := by
      have : ((z.length * k.toNat : Nat) : Int) ≤ 16777216 := by omega
      have e2 : ((k.toNat : Nat) : Int) = k := Int.toNat_of_nonneg h1
      rw [Int.natCast_mul, e2] at this
      exact this
    have e3 : (z.length : Int) ≤ 16777216 := by
      have : (z.length : Int) * 1 ≤ (z.length : Int) * k := Int.mul_le_mul_of_nonneg_left (by omega) (by omega)
      omega
    have e4 : (16777216 : Int) ≤ (2 ^ 63 - 1) / k := by
      refine Int.le_ediv_of_mul_le (by omega) ?_
      have : (16777216 : Int) * k ≤ 16777216 * 1000000 := Int.mul_le_mul_of_nonneg_left h2 (by decide)
      omega
    omega
  · unfold Builtin.Str.tooLong
    exact decide_eq_false (by omega)
  · by_cases c1 : k < 1
    · rw [if_pos c1]
      have e0 : k.toNat = 0 := by omega
      rw [e0] at q
      exact ⟨by decide, .str Str.empty, H, I.tok _, ⟨_, rfl⟩, q⟩
    · rw [if_neg c1]
      by_cases c2 : (k == 1 || z.length == 0) = true
      · rw [if_pos c2]
        have ez : strRep z k.toNat = z := by
          rcases Bool.or_eq_true_iff.mp c2 with e | e
          · have : k = 1 := beq_iff_eq.mp e
            subst this
            show (⟨#[] ++ z.cps⟩ : Str) = z
            simp
          · have hz0 : z.cps = #[] := by
              have : z.cps.size = 0 := beq_iff_eq.mp e
              exact Array.eq_empty_of_size_eq_zero this
            have : ∀ n, (List.replicate n z.cps).foldl (· ++ ·) #[] = (#[] : Array _) := by
              intro n
              induction n with
              | zero => rfl
              | succ n ih => rw [List.replicate_succ, List.foldl_cons, hz0] at *; simpa using ih
            unfold strRep
            rw [this]
            cases z
            simp at hz0
            subst hz0
            rfl
        rw [ez] at q
        exact ⟨.str z, H, I, ⟨t, rfl⟩, q⟩
      · rw [if_neg c2]
        exact ⟨by have := strRep_len z k.toNat; unfold strRep at this; rw [this]; exact hz, .str _, H, I.tok _, ⟨_, rfl⟩, q⟩
def rMulV (K : PySem.W.Frag) : R2 := fun x y H Q => (rI CMul (fun i j => .int (i * j)) x y H Q) ∨ rRepK K x y H Q ∨ rRepA K x y H Q ∨ (∃ z k, x = .str z ∧ y = .int k ∧ 0 ≤ k ∧ k ≤ 1000000 ∧ z.length * k.toNat ≤ sizeLine ∧ Q (.str (strRep z k.toNat)) H)
theorem op_mulV {X : Cx} : OpR X (binaryOp .Mult) (rMulV X.K) := op_mul.or (op_repK.or (op_repA.or op_repS))
def rMulD : R2D := fun x y S Q => match x, y with
  | .int i, .int j => CMul i j ∧ Q (.int (i * j)) S
  | .str z, .int k => (0 ≤ k ∧ k ≤ 1000000 ∧ z.length * k.toNat ≤ sizeLine) ∧ Q (.str (strRep z k.toNat)) S
  | .tup xs, .int k => (-1000 ≤ k ∧ k ≤ 1000 ∧ xs.length ≤ 1000) ∧ Q (.tup (List.replicate k.toNat xs).flatten) S
  | x, .int k => (match asLst S x with
    | some xs => (0 ≤ k ∧ k < 2 ^ 60 ∧ xs.length * k.toNat ≤ sizeLine) ∧ Q (.lst (List.replicate k.toNat xs).flatten) S
    | none => False)
  | _, _ => False
theorem RDs.flat {K : PySem.W.Frag} {G : Addr → Prop} {S : HD} {H : Hp} {ds : List D} {vs : List V} (r : RDs K G S H ds vs) : ∀ n : Nat, RDs K G S H (List.replicate n ds).flatten (List.replicate n vs).flatten
  | 0 => .nil
  | n + 1 => by rw [List.replicate_succ, List.replicate_succ, List.flatten_cons, List.flatten_cons]; exact r.append (RDs.flat r n)
theorem mul2 {K : PySem.W.Frag} : Op2 K (rMulV K) rMulD := by
  intro G S H d1 d2 v1 v2 Qd Q rh q1 q2 t p
  unfold rMulD at t
  split at t
  · cases q1; cases q2; exact .inl ⟨_, _, rfl, rfl, t.1, p.here rh (.int _) t.2⟩
  · cases q1; cases q2; exact .inr (.inr (.inr ⟨_, _, rfl, rfl, t.1.1, t.1.2.1, t.1.2.2, p.here rh (.str _) t.2⟩))
  · rename_i xs k
    cases q2
    cases q1 with
    | @tup a1 vs _ h1 r1 =>
      refine .inr (.inr (.inl ⟨a1, k, vs, rfl, rfl, h1.sq, t.1.1, t.1.2.1, by rw [← r1.length]; exact t.1.2.2, fun e => ?_, fun e q hq => p.newT rh (r1.flat _) t.2 hq⟩))
      refine p.here rh (.tup h1 r1) ?_
      have e2 : (List.replicate k.toNat xs).flatten = xs := by
        rcases e with e | e
        · subst e
          cases r1
          simp
        · subst e; simp
      rw [e2] at t
      exact t.2
  · cases q2
    split at t
    · rename_i xs e
      obtain ⟨a, vs, rfl, l1, r1⟩ := asLst_ok rh e q1
      exact .inr (.inl ⟨a, _, vs, rfl, rfl, l1, t.1.1, t.1.2.1, by rw [← r1.length]; exact t.1.2.2, fun q hq => p.newL rh (r1.flat _) t.2 hq⟩)
    · exact t.elim
  · exact t.elim
theorem de_mul {X : Cx} {a b : Expr} {ta tb : TED} {pos : Pos} (ha : DE X a ta) (hb : DE X b tb) : DE X (.BinOp a .Mult b pos) (tBin rMulD ta tb) := de_op op_mulV mul2 ha hb
end PD
end

section
/-! PD6: deep values as the library's data: repr, ==, !=. -/
namespace PD
open PySem PySem.Spec PyProof.Rows L2

mutual
def py : D → PyData
  | .non => .none
  | .bl b => .bool b
  | .int i => .int i
  | .str x => .str x
  | .tup xs => .tuple (pyL xs)
  | .lst xs => .list (pyL xs)
  | .dic kvs => .dict (pyK kvs)
  | .ref _ => .none
  | .ty _ => .none
  | .deck => .none
def pyL : List D → List PyData
  | [] => []
  | x :: xs => py x :: pyL xs
def pyK : List (D × D) → List (PyData × PyData)
  | [] => []
  | (k, v) :: r => (py k, py v) :: pyK r
end
mutual
/-- may be shown -/
def okR : D → Bool
  | .non => true
  | .bl _ => true
  | .int i => decide (i.natAbs.log2 < 1920)
  | .str x => PyData.strOk x
  | .tup xs => okRL xs
  | .lst xs => okRL xs
  | .dic kvs => okRK kvs
  | .ref _ => false
  | .ty _ => false
  | .deck => false
def okRL : List D → Bool
  | [] => true
  | x :: xs => okR x && okRL xs
def okRK : List (D × D) → Bool
  | [] => true
  | (k, v) :: r => okR k && okR v && okRK r
end
mutual
/-- may be compared -/
def okE : D → Bool
  | .non => true
  | .bl _ => true
  | .int _ => true
  | .str x => PyData.strOk x
  | .tup xs => okEL xs
  | .lst xs => okEL xs
  | .dic _ => false
  | .ref _ => false
  | .ty _ => false
  | .deck => false
def okEL : List D → Bool
  | [] => true
  | x :: xs => okE x && okEL xs
end
mutual
def dep : D → Nat
  | .tup xs => depL xs + 1
  | .lst xs => depL xs + 1
  | .dic kvs => depK kvs + 1
  | .non => 0
  | .bl _ => 0
  | .int _ => 0
  | .str _ => 0
  | .ref _ => 0
  | .ty _ => 0
  | .deck => 0
def depL : List D → Nat
  | [] => 0
  | x :: xs => max (dep x) (depL xs)
def depK : List (D × D) → Nat
  | [] => 0
  | (k, v) :: r => max (max (dep k) (dep v)) (depK r)
end
mutual
/-- no more signs than this -/
def sz : D → Nat
  | .non => 4
  | .bl _ => 5
  | .int i => i.natAbs.log2 + 3
  | .str x => 10 * x.length + 2
  | .tup xs => szL xs + 3
  | .lst xs => szL xs + 3
  | .dic kvs => szK kvs + 3
  | .ref _ => 0
  | .ty _ => 0
  | .deck => 0
def szL : List D → Nat
  | [] => 0
  | x :: xs => sz x + 2 + szL xs
def szK : List (D × D) → Nat
  | [] => 0
  | (k, v) :: r => sz k + sz v + 4 + szK r
end
theorem pyL_map : ∀ xs : List D, pyL xs = xs.map py
  | [] => rfl
  | x :: xs => by simp [pyL, pyL_map xs]
mutual
theorem dep_py : ∀ d : D, (py d).depth = dep d
  | .non => rfl
  | .bl _ => rfl
  | .int _ => rfl
  | .str _ => rfl
  | .ref _ => rfl
  | .ty _ => rfl
  | .deck => rfl
  | .tup xs => by simp only [py, PyData.depth, dep, depL_py xs]
  | .lst xs => by simp only [py, PyData.depth, dep, depL_py xs]
  | .dic kvs => by simp only [py, PyData.depth, dep, depK_py kvs]
theorem depL_py : ∀ xs : List D, PyData.depthAll (pyL xs) = depL xs
  | [] => rfl
  | x :: xs => by simp only [pyL, PyData.depthAll, depL, dep_py x, depL_py xs]
theorem depK_py : ∀ xs : List (D × D), PyData.depthKv (pyK xs) = depK xs
  | [] => rfl
  | (k, v) :: xs => by simp only [pyK, PyData.depthKv, depK, dep_py k, dep_py v, depK_py xs]
end
mutual
theorem show_py : ∀ d : D, okR d = true → (py d).showable = true
  | .non, _ => rfl
  | .bl _, _ => rfl
  | .int _, h => h
  | .str _, _ => rfl
  | .tup xs, h => by simp only [py, PyData.showable]; exact showL_py xs h
  | .lst xs, h => by simp only [py, PyData.showable]; exact showL_py xs h
  | .dic kvs, h => by simp only [py, PyData.showable]; exact showK_py kvs h
theorem showL_py : ∀ xs : List D, okRL xs = true → PyData.showableAll (pyL xs) = true
  | [], _ => rfl
  | x :: xs, h => by
    simp only [okRL, Bool.and_eq_true] at h
    simp only [pyL, PyData.showableAll, show_py x h.1, showL_py xs h.2, Bool.and_self]
theorem showK_py : ∀ xs : List (D × D), okRK xs = true → PyData.showableKv (pyK xs) = true
  | [], _ => rfl
  | (k, v) :: xs, h => by
    simp only [okRK, Bool.and_eq_true] at h
    simp only [pyK, PyData.showableKv, show_py k h.1.1, show_py v h.1.2, showK_py xs h.2, Bool.and_self]
end
theorem log2_pow (n : Nat) : n < 10 ^ (n.log2 + 1) := by
  have h1 : n < 2 ^ (n.log2 + 1) := Nat.lt_log2_self
  have h2 : 2 ^ (n.log2 + 1) ≤ 10 ^ (n.log2 + 1) := Nat.pow_le_pow_left (by decide) _
  omega
theorem len_int (i : Int) : (Str.ofString (toString i)).length ≤ i.natAbs.log2 + 2 := by
  cases i with
  | ofNat n =>
    have h := toString_length_le (v := Int.ofNat n) (Int.natCast_nonneg n) (k := n.log2 + 1) (by omega) (by
      have := log2_pow n
      show ((n : Nat) : Int) < 10 ^ (n.log2 + 1)
      exact_mod_cast this)
    show _ ≤ n.log2 + 2
    omega
  | negSucc n =>
    have h := toString_length_le (v := ((n + 1 : Nat) : Int)) (Int.natCast_nonneg _) (k := (n + 1).log2 + 1) (by omega) (by
      have := log2_pow (n + 1)
      exact_mod_cast this)
    have e2 := len_text_neg (n := Int.negSucc n) (by omega)
    have e3 : (0 : Int) - Int.negSucc n = ((n + 1 : Nat) : Int) := by omega
    rw [e3] at e2
    show _ ≤ (n + 1).log2 + 2
    omega
theorem textFrom_le : ∀ (ts : List Str) (k : Nat) (acc : Str), (textFrom k acc ts).length ≤ acc.length + piled ts := by
  intro ts
  induction ts with
  | nil => intro k acc; simp [textFrom, piled]
  | cons t ts ih =>
    intro k acc
    rw [piled_cons]
    unfold textFrom
    refine Nat.le_trans (ih _ _) ?_
    have e2 : (", " : Str).length = 2 := by decide
    have e0 : ("" : Str).length = 0 := by decide
    split <;> (simp only [Str.length_append]; omega)
mutual
theorem shown_le : ∀ d : D, okR d = true → (py d).shown.length ≤ sz d
  | .non, _ => by simp only [py, PyData.shown, sz]; decide
  | .bl b, _ => by cases b <;> (simp only [py, PyData.shown, sz]; decide)
  | .int i, _ => by simp only [py, PyData.shown, sz]; have := len_int i; omega
  | .str x, h => by
    simp only [py, PyData.shown, sz]
    refine StrLaws.reprText_len x fun c hc => ?_
    have h' : x.cps.all (· < 0x110000) = true := h
    rw [Array.all_eq_true] at h'
    obtain ⟨i, hi, e⟩ := List.mem_iff_getElem.mp hc
    have := h' i (by simpa using hi)
    simp at this
    have e' : x.cps[i]'(by simpa using hi) = c := by simpa using e
    rw [e'] at this
    have : (16 : Nat) ^ 8 = 4294967296 := by decide
    omega
  | .tup xs, h => by
    simp only [py, PyData.shown, sz]
    have hp := piled_le xs h
    unfold tupleText
    simp only [Str.length_append]
    have e1 : ("(" : Str).length = 1 := by decide
    have e2 : (",)" : Str).length = 2 := by decide
    have e3 : (")" : Str).length = 1 := by decide
    by_cases hn : PyData.shownAll (pyL xs) = []
    · rw [hn]
      have : (Str.join ", " []).length = 0 := by decide
      rw [this]
      split <;> omega
    · have := join_length_add _ hn
      split <;> omega
  | .lst xs, h => by
    simp only [py, PyData.shown, sz]
    have hp := piled_le xs h
    unfold listText
    simp only [Str.length_append]
    have h1 := textFrom_le (PyData.shownAll (pyL xs)) 0 "["
    have e1 : ("[" : Str).length = 1 := by decide
    have e2 : ("]" : Str).length = 1 := by decide
    omega
  | .dic kvs, h => by
    simp only [py, PyData.shown, sz]
    have hp := piledK_le kvs h
    unfold dictText
    simp only [Str.length_append]
    have e1 : ("{" : Str).length = 1 := by decide
    have e2 : ("}" : Str).length = 1 := by decide
    by_cases hn : PyData.shownKv (pyK kvs) = []
    · rw [hn]
      have : (Str.join ", " []).length = 0 := by decide
      omega
    · have := join_length_add _ hn
      omega
theorem piled_le : ∀ xs : List D, okRL xs = true → piled (PyData.shownAll (pyL xs)) ≤ szL xs
  | [], _ => by simp [pyL, PyData.shownAll, piled, szL]
  | x :: xs, h => by
    simp only [okRL, Bool.and_eq_true] at h
    have h1 := shown_le x h.1
    have h2 := piled_le xs h.2
    simp only [pyL, PyData.shownAll, piled_cons, szL]
    omega
theorem piledK_le : ∀ xs : List (D × D), okRK xs = true → piled (PyData.shownKv (pyK xs)) ≤ szK xs
  | [], _ => by simp [pyK, PyData.shownKv, piled, szK]
  | (k, v) :: xs, h => by
    simp only [okRK, Bool.and_eq_true] at h
    have h1 := shown_le k h.1.1
    have h2 := shown_le v h.1.2
    have h3 := piledK_le xs h.2
    simp only [pyK, PyData.shownKv, piled_cons, szK, Str.length_append]
    have : (": " : Str).length = 2 := by decide
    omega
end
end PD
end

section
/-! PD7: repr, ==, != over deep values. -/
namespace PD
open PySem PySem.Spec PyProof.Rows L2

/-- the module's table of modules stands in the base -/
def SysB (base : Heap) : Prop := ∃ mm, base.Ns sysModules mm
section
variable {X : Cx} {pins : List (Addr × Obj)} {σ : L2.St} {H : Hp} {s : Shared} {G : Addr → Prop} {S : HD}
theorem not_sys (I : Inv X pins σ H s) (hB : SysB X.base) {a : Addr} {its : Array Value} {n : Nat} {o : Obj} (h : s.heap.get? a = some o) (hd : o.data = .seq its n) : a ≠ sysModules := fun e => by
  obtain ⟨mm, ob, es, ep, h1, h2, _⟩ := hB
  have h3 := I.bk _ _ h1
  rw [← e, h] at h3
  cases h3
  rw [hd] at h2; cases h2
mutual
theorem rd_reads (I : Inv X pins σ H s) (hB : SysB X.base) : ∀ (d : D) (v : V) (u : Value), RD X.K G S H d v → RelV v u → okR d = true ∨ okE d = true → ∃ as, Reads s.heap u (py d) as ∧ sysModules ∉ as
  | .non, _, _, q, r, _ => by cases q; cases r; exact ⟨_, .none, by simp⟩
  | .bl b, _, _, q, r, _ => by cases q; cases r; exact ⟨_, .bool b, by simp⟩
  | .int i, _, _, q, r, _ => by
    cases q
    obtain ⟨t, rfl⟩ := r
    exact ⟨_, .int i t, by simp⟩
  | .str x, _, _, q, r, _ => by
    cases q
    obtain ⟨t, rfl⟩ := r
    exact ⟨_, .str x t, by simp⟩
  | .tup xs, _, _, q, r, ok => by
    cases q with
    | tup h rs =>
      cases r
      obtain ⟨its, rv, ⟨o, e1, e2, n, e3⟩, _⟩ := I.tuple h.sq
      obtain ⟨as, q1, q2⟩ := rds_reads I hB xs _ its rs rv (ok.imp (fun z => z) fun z => z)
      exact ⟨_, .tuple e1 e2 e3 (by simpa using q1), q2⟩
  | .lst xs, _, _, q, r, ok => by
    cases q with
    | lst h rs =>
      cases r
      obtain ⟨its, rv, ⟨o, n, e1, e2, _, e3⟩, _⟩ := I.list h.sq
      obtain ⟨as, q1, q2⟩ := rds_reads I hB xs _ its rs rv (ok.imp (fun z => z) fun z => z)
      exact ⟨_, .list e1 e2 e3 (by simpa using q1), fun hm => (List.mem_cons.mp hm).elim (fun z => not_sys I hB e1 e3 z.symm) q2⟩
  | .dic kvs, _, _, q, r, ok => by
    cases q with
    | @dic a kvv _ h rs =>
      cases r
      obtain ⟨_, hs, vs, kv, o, es, ep, e1, e2, e3, _, pr, _⟩ := dk_rd I.hok h.2
      obtain ⟨as, bs, q1, q2, q3, q4⟩ := rdk_reads I hB kvs kvv vs es.toList rs kv pr (by
        rcases ok with z | z
        · exact z
        · cases z)
      refine ⟨_, .dict e1 e2.1 e3 q1 q2, fun hm => ?_⟩
      rcases List.mem_append.mp hm with hm | hm
      · rcases List.mem_cons.mp hm with hm | hm
        · rw [← hm] at hs; simp at hs
        · exact q3 hm
      · exact q4 hm
  | .ref _, _, _, _, _, ok => by rcases ok with z | z <;> cases z
  | .ty _, _, _, _, _, ok => by rcases ok with z | z <;> cases z
  | .deck, _, _, _, _, ok => by rcases ok with z | z <;> cases z
theorem rds_reads (I : Inv X pins σ H s) (hB : SysB X.base) : ∀ (ds : List D) (vs : List V) (us : List Value), RDs X.K G S H ds vs → Vals vs us → okRL ds = true ∨ okEL ds = true → ∃ as, ReadsAll s.heap us (pyL ds) as ∧ sysModules ∉ as
  | [], _, _, q, r, _ => by cases q; cases r; exact ⟨_, .nil, by simp⟩
  | d :: ds, _, _, q, r, ok => by
    cases q with
    | cons q1 q2 =>
      cases r with
      | cons r1 r2 =>
        have ok1 : okR d = true ∨ okE d = true := ok.imp (fun z => by simp only [okRL, Bool.and_eq_true] at z; exact z.1) fun z => by simp only [okEL, Bool.and_eq_true] at z; exact z.1
        have ok2 : okRL ds = true ∨ okEL ds = true := ok.imp (fun z => by simp only [okRL, Bool.and_eq_true] at z; exact z.2) fun z => by simp only [okEL, Bool.and_eq_true] at z; exact z.2
        obtain ⟨as, a1, a2⟩ := rd_reads I hB d _ _ q1 r1 ok1
        obtain ⟨bs, b1, b2⟩ := rds_reads I hB ds _ _ q2 r2 ok2
        exact ⟨_, .cons a1 b1, fun hm => (List.mem_append.mp hm).elim a2 b2⟩
theorem rdk_reads (I : Inv X pins σ H s) (hB : SysB X.base) : ∀ (ds : List (D × D)) (kvv : List (Key × V)) (vs : List (Key × Value)) (es : List DictEntry), RDk X.K G S H ds kvv → KV kvv vs → Pairs (mixKind X.prog X.w) es vs → okRK ds = true →
    ∃ as bs, ReadsAll s.heap (es.map (·.key)) ((pyK ds).map (·.1)) as ∧ ReadsAll s.heap (es.map (·.val)) ((pyK ds).map (·.2)) bs ∧ sysModules ∉ as ∧ sysModules ∉ bs
  | [], _, _, _, q, kv, pr, _ => by
    cases q; cases kv; cases pr
    exact ⟨_, _, .nil, .nil, by simp, by simp⟩
  | (k, d) :: ds, _, _, _, q, kv, pr, ok => by
    cases q with
    | @cons k' _ v _ kvs q1 q2 =>
      cases kv with
      | cons kv1 kv2 =>
        cases pr with
        | cons p1 p2 p3 =>
          simp only [okRK, Bool.and_eq_true] at ok
          obtain ⟨as, bs, a1, a2, a3, a4⟩ := rdk_reads I hB ds _ _ _ q2 kv2 p3 ok.2
          obtain ⟨ek, rv⟩ := kv1
          obtain ⟨cs, c1, c2⟩ := rd_reads I hB d _ _ q1 rv (.inl ok.1.2)
          rename_i pq _ en _
          have kr : ∃ ks, Reads s.heap en.key (py (kD k')) ks ∧ sysModules ∉ ks := by
            rw [← ek] at p1
            have p1' : keyIs k' _ = true := p1
            rcases keyIs_shape p1' with ⟨i, t, e1, e2⟩ | ⟨x, t, e1, e2⟩
            · subst e1; rw [e2]; exact ⟨_, .int i t, by simp⟩
            · subst e1; rw [e2]; exact ⟨_, .str x t, by simp⟩
          obtain ⟨ks, k1, k2⟩ := kr
          refine ⟨_, _, .cons k1 a1, .cons (show Reads s.heap en.val (py d) cs by rw [p2]; exact c1) a2, fun hm => (List.mem_append.mp hm).elim k2 a3, fun hm => (List.mem_append.mp hm).elim c2 a4⟩
end
end
/-- a tracked list at the outside is read -/
def nrm (S : HD) : D → D
  | .ref a => match S.hp a with
    | some (.lst xs) => .lst xs
    | _ => .ref a
  | d => d
section
variable {K : PySem.W.Frag} {G : Addr → Prop} {S : HD} {H : Hp}
/-- what nrm says is so, but for the place's being frozen: over a state where it is not tracked any more -/
theorem nrm_ok (rh : RH K G S H) {d : D} {v : V} (q : RD K G S H d v) : ∃ S', FL S H S' H ∧ RD K G S' H (nrm S d) v := by
  cases q with
  | ref a =>
    simp only [nrm]
    split
    · rename_i xs e
      obtain ⟨h1, h2, vs, h3, h4⟩ := rh.hp a _ e
      have le : HLe (S.del a) S := ⟨fun b u z => by
        unfold HD.del at z
        by_cases hb : b = a
        · simp [hb] at z
        · simpa [hb] using z, Nat.le_refl _, rfl⟩
      exact ⟨S.del a, le.fl, .lst (.inl ⟨⟨by simp [HD.del], fun z => h1 (le.dkE.mp z), h2⟩, .inl h3⟩) (h4.mv le.mv)⟩
    · exact ⟨S, .refl _ _, .ref a⟩
  | non => exact ⟨S, .refl _ _, .non⟩
  | bl b => exact ⟨S, .refl _ _, .bl b⟩
  | int b => exact ⟨S, .refl _ _, .int b⟩
  | str b => exact ⟨S, .refl _ _, .str b⟩
  | ty b => exact ⟨S, .refl _ _, .ty b⟩
  | tup h r => exact ⟨S, .refl _ _, .tup h r⟩
  | lst h r => exact ⟨S, .refl _ _, .lst h r⟩
  | dic h r => exact ⟨S, .refl _ _, .dic h r⟩
  | deck h => exact ⟨S, .refl _ _, .deck h⟩
end

/-- the text of a value -/
def shw (d : D) : Str := (py d).shown
/-- repr(x) -/
def rReprD : SpD := fun ds S Q => match ds with
  | [d] => (okR (nrm S d) = true ∧ dep (nrm S d) ≤ 60 ∧ sz (nrm S d) ≤ 16000000) ∧ Q (.str (shw (nrm S d))) S
  | _ => False
section
variable {X : Cx} {e : Expr} {es : List Expr} {ta : TAD} {p pos : Pos}
/-- a built-in call by values and deep values, at once -/
def CallRD (X : Cx) (f : Value) (rd : SpD) : Prop :=
  ∀ (pins : List (Addr × Obj)) (s : Shared) (σ : L2.St) (H : Hp) (vs : List V) (us : List Value) (ds : List D) (G : Addr → Prop) (S : HD) (Qd : QD) (Q : VK), Inv X pins σ H s → Vals vs us → RDs X.K G S H ds vs → RH X.K G S H → rd ds S Qd → Post X.K G S H Qd Q →
    wpAny (model X.prog X.w) X.A (call f us) (EP X pins σ Q) X.xe s
theorem CallRD.or {f : Value} {r r' : SpD} (h : CallRD X f r) (h' : CallRD X f r') : CallRD X f (fun ds S Q => r ds S Q ∨ r' ds S Q) := fun pins s σ H vs us ds G S Qd Q I rv rd rh t p =>
  t.elim (fun t => h pins s σ H vs us ds G S Qd Q I rv rd rh t p) fun t => h' pins s σ H vs us ds G S Qd Q I rv rd rh t p
theorem CallRD.imp {f : Value} {r r' : SpD} (h : CallRD X f r) (i : ∀ ds S Q, r' ds S Q → r ds S Q) : CallRD X f r' := fun pins s σ H vs us ds G S Qd Q I rv rd rh t p => h pins s σ H vs us ds G S Qd Q I rv rd rh (i _ _ _ t) p
theorem CallRD.of {f : Value} {r : List V → Hp → VK → Prop} {rd : SpD} (h : CallR X f r) (i : ∀ G S H ds vs Qd Q, RH X.K G S H → RDs X.K G S H ds vs → rd ds S Qd → Post X.K G S H Qd Q → r vs H Q) : CallRD X f rd :=
  fun pins s σ H vs us ds G S Qd Q I rv rd' rh t p => h pins s σ H vs us Q I rv (i G S H ds vs Qd Q rh rd' t p)
theorem call_reprD (k : Nat) (hr : RoomG k X.A) (hB : SysB X.base) : CallRD X (.builtin "repr") rReprD := by
  intro pins s σ H vs us ds G S Qd Q I rv rd rh t p
  unfold rReprD at t
  split at t
  · rename_i d
    obtain ⟨⟨o1, o2, o3⟩, t⟩ := t
    cases rd with
    | cons q1 r1 =>
      cases r1
      obtain ⟨u, rfl, ru⟩ := vals1 rv
      obtain ⟨S', f', q2⟩ := nrm_ok rh q1
      obtain ⟨as, rr, ns⟩ := rd_reads I hB _ _ _ q2 ru (.inl o1)
      have hs := show_py _ o1
      have hz : (py (nrm S d)).shown.length ≤ sizeLine := Nat.le_trans (shown_le _ o1) (Nat.le_trans o3 (by decide))
      have hu : X.A.units + ((py (nrm S d)).depth + 1) < cLine := by have := hr.un64; rw [dep_py]; omega
      have fin : ∀ (h' : Heap) (u' : Tok) (tk : Nat), (∀ b o, s.heap.get? b = some o → h'.get? b = some o) → EP X pins σ Q (.str (py (nrm S d)).shown u') { s with heap := h', toks := tk } := fun h' u' tk hk =>
        ⟨.str _, H, I.kept hk, ⟨u', rfl⟩, p.here rh (.str _) t⟩
      have big : ∀ a, u = .ref a → wpAny (model X.prog X.w) X.A (call (.builtin "repr") [u]) (EP X pins σ Q) X.xe s := fun a e => by
        subst e
        exact repr_of_reads' rr hs (fun _ => ns) hr.gd hu (fun _ _ e => e) fin hz
      generalize nrm S d = nd at *
      cases q2 with
      | non => cases ru; exact PySem.P.repr_of_none (fin s.heap _ _ fun _ _ e => e)
      | bl b => cases ru; exact PySem.P.repr_of_bool (fin s.heap _ _ fun _ _ e => e)
      | int i => obtain ⟨tt, rfl⟩ := ru; exact PySem.P.repr_of_int (of_decide_eq_true o1) (fin s.heap _ _ fun _ _ e => e)
      | str x => obtain ⟨tt, rfl⟩ := ru; exact PySem.P.repr_of_str (fin s.heap _ _ fun _ _ e => e) hz
      | tup h r => cases ru; exact big _ rfl
      | lst h r => cases ru; exact big _ rfl
      | dic h r => cases ru; exact big _ rfl
      | ref a => cases o1
      | ty a => cases o1
      | deck h => cases o1
  · exact t.elim
end
end PD
end

section
/-! PD8: comparisons, built-in calls, items, slices, what is walked. -/
namespace PD
open PySem PySem.Spec PyProof.Rows L2

/-- two operands by values and deep values at once -/
def OpRD (X : Cx) (f : Value → Value → Sem Value) (rd : R2D) : Prop :=
  ∀ (pins : List (Addr × Obj)) (s : Shared) (σ : L2.St) (H : Hp) (x y : V) (v u : Value) (d e : D) (G : Addr → Prop) (S : HD) (Qd : QD) (Q : VK), Inv X pins σ H s → RelV x v → RelV y u → RD X.K G S H d x → RD X.K G S H e y → RH X.K G S H →
    rd d e S Qd → Post X.K G S H Qd Q → wpAny (model X.prog X.w) X.A (f v u) (EP X pins σ Q) X.xe s
def liftR (K : PySem.W.Frag) (rd : R2D) : R2 := fun x y H Q => ∃ G S d e Qd, RH K G S H ∧ RD K G S H d x ∧ RD K G S H e y ∧ rd d e S Qd ∧ Post K G S H Qd Q
theorem OpRD.toR {X : Cx} {f : Value → Value → Sem Value} {rd : R2D} (h : OpRD X f rd) : OpR X f (liftR X.K rd) :=
  fun pins s σ H x y v u Q I rx ry ⟨G, S, d, e, Qd, rh, q1, q2, t, p⟩ => h pins s σ H x y v u d e G S Qd Q I rx ry q1 q2 rh t p
theorem lift2 {K : PySem.W.Frag} {rd : R2D} : Op2 K (liftR K rd) rd := fun G S H d1 d2 v1 v2 Qd Q rh q1 q2 t p => ⟨G, S, d1, d2, Qd, rh, q1, q2, t, p⟩
theorem OpRD.of {X : Cx} {f : Value → Value → Sem Value} {r : R2} {rd : R2D} (h : OpR X f r) (i : Op2 X.K r rd) : OpRD X f rd :=
  fun pins s σ H x y v u d e G S Qd Q I rx ry q1 q2 rh t p => h pins s σ H x y v u Q I rx ry (i G S H d e x y Qd Q rh q1 q2 t p)
def liftC (K : PySem.W.Frag) (rd : SpD) : List V → Hp → VK → Prop := fun vs H Q => ∃ G S ds Qd, RH K G S H ∧ RDs K G S H ds vs ∧ rd ds S Qd ∧ Post K G S H Qd Q
theorem CallRD.toR {X : Cx} {f : Value} {rd : SpD} (h : CallRD X f rd) : CallR X f (liftC X.K rd) :=
  fun pins s σ H vs us Q I rv ⟨G, S, ds, Qd, rh, q, t, p⟩ => h pins s σ H vs us ds G S Qd Q I rv q rh t p
section
variable {X : Cx} {e a b : Expr} {es : List Expr} {ta tb : TED} {tA : TAD} {x : Str} {p pos : Pos} {rd : SpD}
theorem up_callB {K : PySem.W.Frag} : ∀ σ H Q, up K (tCallD rd tA) σ H Q → tCB (liftC K rd) (upA K tA) σ H Q := fun σ H Q ⟨G, σd, S, Qd, rs, rh, t, p⟩ =>
  ⟨G, σd, S, _, rs, rh, t, fun S1 ds vs H1 f1 rh1 q1 t1 => ⟨G, S1, ds, Qd, rh1, q1, t1, p.fl f1⟩⟩
theorem de_callB {id : String} (hc : CallRD X (.builtin id) rd) (hm : X.mg x = none) (hv : bootBuiltins x = some (.builtin id)) (ha : DA X (e :: es) tA) (hg : Gl X x := by rfl) (hn : x ≠ "__name__" := by decide) (hdb : (x == ("__debug__" : Str)) = false := by decide)
    (he : starEach (e :: es) X.env = (false, eval e X.env) :: starEach es X.env := by rfl) (hpl : (backTo pos (starEach es X.env)).any (·.1) = false := by rfl) : DE X (.Call (.Name x p) (e :: es) [] pos) (tCallD rd tA) :=
  (pe_callB hc.toR hg hm hv ha hn hdb he hpl).imp up_callB
theorem de_callTy {T : String} (hc : CallRD X (.type T) rd) (hm : X.mg x = none) (hv : bootBuiltins x = some (.type T)) (ha : DA X (e :: es) tA) (hg : Gl X x := by rfl) (hn : x ≠ "__name__" := by decide) (hdb : (x == ("__debug__" : Str)) = false := by decide)
    (he : starEach (e :: es) X.env = (false, eval e X.env) :: starEach es X.env := by rfl) (hpl : (backTo pos (starEach es X.env)).any (·.1) = false := by rfl) : DE X (.Call (.Name x p) (e :: es) [] pos) (tCallD rd tA) :=
  (pe_callTy hc.toR hg hm hv ha hn hdb he hpl).imp up_callB
end

/-! ### == and != -/
/-- Python's == on data -/
def eqd (d e : D) : Bool := PyData.eqv (py d) (py e)
def scl : D → Bool
  | .non => true
  | .bl _ => true
  | .int _ => true
  | .str _ => true
  | _ => false
/-- the comparison is known -/
def eqk (d e : D) : Bool := (okE d && okE e && (decide (dep d ≤ 60) || decide (dep e ≤ 60))) || (match d, e with
  | .tup xs, .tup ys => xs.isEmpty || ys.isEmpty
  | .lst xs, .lst ys => xs.isEmpty || ys.isEmpty
  | .int _, .int _ => true
  | .str _, .str _ => true
  | .non, .str _ => true
  | .str _, .non => true
  | .int _, .str _ => true
  | .str _, .int _ => true
  | .bl _, .str _ => true
  | .str _, .bl _ => true
  | _, _ => false)
def rEqD : R2D := fun x y S Q => eqk (nrm S x) (nrm S y) = true ∧ Q (.bl (eqd (nrm S x) (nrm S y))) S
def rNeD : R2D := fun x y S Q => eqk (nrm S x) (nrm S y) = true ∧ Q (.bl (!eqd (nrm S x) (nrm S y))) S
theorem eqv_nilL (xs : List PyData) : PyData.eqvAll xs [] = xs.isEmpty := by cases xs <;> rfl
theorem eqv_nilR (xs : List PyData) : PyData.eqvAll [] xs = xs.isEmpty := by cases xs <;> rfl
theorem pyL_isEmpty (xs : List D) : (pyL xs).isEmpty = xs.isEmpty := by cases xs <;> rfl
section
variable {X : Cx} {pins : List (Addr × Obj)} {σ : L2.St} {H : Hp} {s : Shared} {G : Addr → Prop} {S : HD}
mutual
theorem lay_py : ∀ d : D, okE d = true → (py d).canLay0 = true
  | .non, _ => rfl
  | .bl _, _ => rfl
  | .int _, _ => rfl
  | .str _, h => h
  | .tup xs, h => layL_py xs h
  | .lst xs, h => layL_py xs h
  | .dic _, h => nomatch h
  | .ref _, h => nomatch h
  | .ty _, h => nomatch h
  | .deck, h => nomatch h
theorem layL_py : ∀ xs : List D, okEL xs = true → PyData.canLayAll0 (pyL xs) = true
  | [], _ => rfl
  | x :: xs, h => by
    simp only [okEL, Bool.and_eq_true] at h
    simp only [pyL, PyData.canLayAll0, lay_py x h.1, layL_py xs h.2, Bool.and_self]
end
/-- the two kinds of comparison in one -/
theorem cmp_at (I : Inv X pins σ H s) (hB : SysB X.base) (hu : X.A.units + 64 < cLine) {S1 S2 : HD} {d e : D} {x y : V} {v u : Value} (rx : RelV x v) (ry : RelV y u) (q1 : RD X.K G S1 H d x) (q2 : RD X.K G S2 H e y) (h : eqk d e = true) (Q : VK) :
    (Q (.bl (eqd d e)) H → wpAny (model X.prog X.w) X.A (compareOp .Eq v u) (EP X pins σ Q) X.xe s) ∧ (Q (.bl (!eqd d e)) H → wpAny (model X.prog X.w) X.A (compareOp .NotEq v u) (EP X pins σ Q) X.xe s) := by
  unfold eqk at h
  have hor := Bool.or_eq_true_iff.mp h
  clear h
  rcases hor with h | h
  · simp only [Bool.and_eq_true, Bool.or_eq_true, decide_eq_true_eq] at h
    obtain ⟨⟨h1, h2⟩, h3⟩ := h
    obtain ⟨as, r1, _⟩ := rd_reads I hB d x v q1 rx (.inr h1)
    obtain ⟨bs, r2, _⟩ := rd_reads I hB e y u q2 ry (.inr h2)
    have room : X.A.units + min (py d).depth (py e).depth < cLine := by rw [dep_py, dep_py]; omega
    exact ⟨fun q => SeqAt.compareEq_reads r1 r2 (lay_py d h1) (lay_py e h2) room ⟨.bl _, H, I, rfl, q⟩, fun q => SeqAt.compareNe_reads r1 r2 (lay_py d h1) (lay_py e h2) room ⟨.bl _, H, I, rfl, q⟩⟩
  · have sc : scal x y = true → decide (x = y) = eqd d e → (Q (.bl (eqd d e)) H → wpAny (model X.prog X.w) X.A (compareOp .Eq v u) (EP X pins σ Q) X.xe s) ∧ (Q (.bl (!eqd d e)) H → wpAny (model X.prog X.w) X.A (compareOp .NotEq v u) (EP X pins σ Q) X.xe s) :=
      fun hs hb => ⟨fun q => op_eq pins s σ H x y v u Q I rx ry ⟨hs, by rw [hb]; exact q⟩, fun q => op_ne pins s σ H x y v u Q I rx ry ⟨hs, by rw [hb]; exact q⟩⟩
    have hu0 : X.A.units < cLine := by omega
    split at h
    · rename_i xs ys
      cases q1 with
      | tup h1 r1 =>
        cases q2 with
        | tup h2 r2 =>
          cases rx; cases ry
          obtain ⟨its, rv1, p1, _⟩ := I.tuple h1.sq
          obtain ⟨its2, rv2, p2, _⟩ := I.tuple h2.sq
          have l1 : its.length = xs.length := rv1.length.symm.trans r1.length.symm
          have l2 : its2.length = ys.length := rv2.length.symm.trans r2.length.symm
          have hz : min its.toArray.size its2.toArray.size = 0 := by
            rcases Bool.or_eq_true_iff.mp h with z | z
            · rw [List.isEmpty_iff] at z; subst z; simp [List.length_eq_zero_iff.mp l1]
            · rw [List.isEmpty_iff] at z; subst z; simp [List.length_eq_zero_iff.mp l2]
          have e1 : eqd (.tup xs) (.tup ys) = ((List.range (min its.toArray.size its2.toArray.size)).all (fun _ => true) && its.toArray.size == its2.toArray.size) := by
            rw [hz]
            show PyData.eqvAll (pyL xs) (pyL ys) = _
            simp only [List.range_zero, List.all_nil, Bool.true_and, List.size_toArray, l1, l2]
            rcases Bool.or_eq_true_iff.mp h with z | z
            · rw [List.isEmpty_iff] at z; subst z
              show PyData.eqvAll [] (pyL ys) = _
              rw [eqv_nilR, pyL_isEmpty]; cases ys <;> rfl
            · rw [List.isEmpty_iff] at z; subst z
              show PyData.eqvAll (pyL xs) [] = _
              rw [eqv_nilL, pyL_isEmpty]; cases xs <;> rfl
          have none : ∀ j (h1 : j < its.toArray.size) (h2 : j < its2.toArray.size), SeqAt.EqAt X.A.in1 s its.toArray[j] its2.toArray[j] ((fun _ => true) j) := fun j h1 h2 => by omega
          refine ⟨fun q => SeqAt.RcAt.tuples p1 p2 hu0 none X.prog X.w _ _ ?_, fun q => SeqAt.RcNeAt.tuples p1 p2 hu0 none X.prog X.w _ _ ?_⟩
          · rw [← e1]; exact ⟨.bl _, H, I, rfl, q⟩
          · rw [← e1]; exact ⟨.bl _, H, I, rfl, q⟩
    · rename_i xs ys
      cases q1 with
      | lst h1 r1 =>
        cases q2 with
        | lst h2 r2 =>
          cases rx; cases ry
          obtain ⟨its, rv1, p1', _⟩ := I.list h1.sq
          obtain ⟨its2, rv2, p2', _⟩ := I.list h2.sq
          have p1 := p1'.isList
          have p2 := p2'.isList
          have l1 : its.length = xs.length := rv1.length.symm.trans r1.length.symm
          have l2 : its2.length = ys.length := rv2.length.symm.trans r2.length.symm
          by_cases hz : its.toArray.size = its2.toArray.size
          · have e1 : eqd (.lst xs) (.lst ys) = true := by
              show PyData.eqvAll (pyL xs) (pyL ys) = true
              simp only [List.size_toArray, l1, l2] at hz
              have : xs = [] ∧ ys = [] := by
                rcases Bool.or_eq_true_iff.mp h with z | z
                · rw [List.isEmpty_iff] at z; subst z; exact ⟨rfl, List.length_eq_zero_iff.mp hz.symm⟩
                · rw [List.isEmpty_iff] at z; subst z; exact ⟨List.length_eq_zero_iff.mp hz, rfl⟩
              rw [this.1, this.2]; rfl
            have z0 : its.toArray.size = 0 := by
              rcases Bool.or_eq_true_iff.mp h with z | z
              · rw [List.isEmpty_iff] at z; subst z; simp [List.length_eq_zero_iff.mp l1]
              · rw [List.isEmpty_iff] at z; subst z; rw [hz]; simp [List.length_eq_zero_iff.mp l2]
            have e2 : (List.range its.toArray.size).all (fun _ => true) = true := by rw [z0]; rfl
            have none : ∀ j (h1 : j < its.toArray.size) (h2 : j < its2.toArray.size), SeqAt.EqAt X.A.in1 s its.toArray[j] its2.toArray[j] ((fun _ => true) j) := fun j h1 h2 => by omega
            refine ⟨fun q => SeqAt.RcAt.lists p1 p2 hz hu0 none X.prog X.w _ _ ?_, fun q => SeqAt.RcNeAt.lists p1 p2 hz hu0 none X.prog X.w _ _ ?_⟩
            · rw [e2, ← e1]; exact ⟨.bl _, H, I, rfl, q⟩
            · rw [e2, ← e1]; exact ⟨.bl _, H, I, rfl, q⟩
          · have e1 : eqd (.lst xs) (.lst ys) = false := by
              show PyData.eqvAll (pyL xs) (pyL ys) = false
              refine SeqAt.eqvAll_other_length ?_
              simp only [List.size_toArray, l1, l2] at hz
              rw [pyL_map, pyL_map, List.length_map, List.length_map]
              exact hz
            have hz' : (its.toArray.size != its2.toArray.size) = true := by simpa using hz
            refine ⟨fun q => SeqAt.RcAt.lists_lengths p1 p2 hz' hu0 X.prog X.w _ _ ?_, fun q => SeqAt.RcNeAt.lists_lengths p1 p2 hz' hu0 X.prog X.w _ _ ?_⟩
            · rw [← e1]; exact ⟨.bl _, H, I, rfl, q⟩
            · rw [e1] at q; exact ⟨.bl _, H, I, rfl, q⟩
    · cases q1; cases q2; exact sc rfl (by simp [eqd, py, PyData.eqv]; rw [Bool.eq_iff_iff]; simp)
    · cases q1; cases q2; exact sc rfl (by simp [eqd, py, PyData.eqv]; rw [Bool.eq_iff_iff]; simp)
    · cases q1; cases q2; exact sc rfl (by simp [eqd, py, PyData.eqv])
    · cases q1; cases q2; exact sc rfl (by simp [eqd, py, PyData.eqv])
    · cases q1; cases q2; exact sc rfl (by simp [eqd, py, PyData.eqv])
    · cases q1; cases q2; exact sc rfl (by simp [eqd, py, PyData.eqv])
    · cases q1; cases q2; exact sc rfl (by simp [eqd, py, PyData.eqv])
    · cases q1; cases q2; exact sc rfl (by simp [eqd, py, PyData.eqv])
    · cases h
theorem op_eqRD {k : Nat} (hr : RoomG k X.A) (hB : SysB X.base) : OpRD X (compareOp .Eq) rEqD := fun pins s σ H x y v u d e G S Qd Q I rx ry q1 q2 rh t p => by
  obtain ⟨S1, _, r1⟩ := nrm_ok rh q1
  obtain ⟨S2, _, r2⟩ := nrm_ok rh q2
  exact (cmp_at I hB hr.un64 rx ry r1 r2 t.1 Q).1 (p.here rh (.bl _) t.2)
theorem op_neRD {k : Nat} (hr : RoomG k X.A) (hB : SysB X.base) : OpRD X (compareOp .NotEq) rNeD := fun pins s σ H x y v u d e G S Qd Q I rx ry q1 q2 rh t p => by
  obtain ⟨S1, _, r1⟩ := nrm_ok rh q1
  obtain ⟨S2, _, r2⟩ := nrm_ok rh q2
  exact (cmp_at I hB hr.un64 rx ry r1 r2 t.1 Q).2 (p.here rh (.bl _) t.2)
end
end PD
end

section
/-! PD9: more comparisons, built-in calls, items, slices, what is walked, methods of lists. -/
namespace PD
open PySem PySem.Spec PyProof.Rows L2

section
variable {X : Cx} {a b c e : Expr} {ta tb tc : TED} {pos : Pos}
/-- comparison of ints -/
def rCmpI (f : Int → Int → Bool) : R2D := fun x y S Q => match x, y with
  | .int i, .int j => Q (.bl (f i j)) S
  | _, _ => False
theorem cmpI {K : PySem.W.Frag} {f : Int → Int → Bool} : Op2 K (rI0 fun i j => .bl (f i j)) (rCmpI f) := fun G S H d1 d2 v1 v2 Qd Q rh q1 q2 t p => by
  unfold rCmpI at t
  split at t
  · cases q1; cases q2; exact ⟨_, _, rfl, rfl, p.here rh (.bl _) t⟩
  · exact t.elim
abbrev fLt : Int → Int → Bool := fun i j => decide (i < j)
abbrev fLe : Int → Int → Bool := fun i j => decide (i ≤ j)
abbrev fGt : Int → Int → Bool := fun i j => decide (j < i)
abbrev fGe : Int → Int → Bool := fun i j => decide (j ≤ i)
/-- is None -/
def isN : D → Bool
  | .non => true
  | _ => false
def rIsN : R1D := fun x S Q => Q (.bl (isN x)) S
def rNotN : R1D := fun x S Q => Q (.bl (!isN x)) S
theorem isN_v {K : PySem.W.Frag} {G : Addr → Prop} {S : HD} {H : Hp} {d : D} {v : V} (q : RD K G S H d v) : decide (v = .non) = isN d := by
  cases q <;> simp [isN]
theorem de_isN {j pos'} (ha : DE X a ta) : DE X (.Compare a [.Is] [.Constant .none j pos'] pos) (tUnD rIsN ta) :=
  (pe_cmp (pc_isN ha) rfl).imp fun σ H Q ⟨G, σd, S, Qd, rs, rh, t, p⟩ => ⟨G, σd, S, _, rs, rh, t, fun S1 d v H1 f1 rh1 q1 t1 => by show Q (.bl (decide (v = .non))) H1; rw [isN_v q1]; exact p S1 _ _ H1 f1 rh1 (.bl _) t1⟩
theorem de_notN {j pos'} (ha : DE X a ta) : DE X (.Compare a [.IsNot] [.Constant .none j pos'] pos) (tUnD rNotN ta) :=
  (pe_cmp (pc_notN ha) rfl).imp fun σ H Q ⟨G, σd, S, Qd, rs, rh, t, p⟩ => ⟨G, σd, S, _, rs, rh, t, fun S1 d v H1 f1 rh1 q1 t1 => by show Q (.bl (!decide (v = .non))) H1; rw [isN_v q1]; exact p S1 _ _ H1 f1 rh1 (.bl _) t1⟩
/-- a op b op' c -/
def tChainD (rd rd' : R2D) (ta tb tc : TED) : TED := fun σ S Q => ta σ S fun x S1 => tb σ S1 fun y S2 => rd x y S2 fun z S3 => match z with
  | .bl true => tc σ S3 fun w S4 => rd' y w S4 Q
  | .bl false => Q (.bl false) S3
  | _ => False

/-! ### len, isinstance, and the like -/
def rLenD : SpD := fun ds S Q => match ds with
  | [.str x] => x.length ≤ sizeLine ∧ Q (.int x.length) S
  | [d] => match asSeq S d with
    | some xs => Q (.int xs.length) S
    | none => False
  | _ => False
theorem call_lenRD : CallRD X (.builtin "len") rLenD := .of (r := fun xs H Q => (∃ p ys, xs = [.ref p] ∧ (SqL X.K H p ys ∨ SqT X.K H p ys) ∧ Q (.int ys.length) H) ∨ ∃ z, xs = [.str z] ∧ z.length ≤ sizeLine ∧ Q (.int z.length) H) (call_len_seq.or call_len_str) fun G S H ds vs Qd Q rh rd t p => by
  unfold rLenD at t
  split at t
  · cases rd with
    | cons q1 r1 => cases r1; cases q1; exact .inr ⟨_, rfl, t.1, p.here rh (.int _) t.2⟩
  · split at t
    · rename_i xs e
      cases rd with
      | cons q1 r1 =>
        cases r1
        obtain ⟨a, ws, rfl, l, r⟩ := asSeq_ok rh e q1
        exact .inl ⟨a, ws, rfl, l, by rw [← r.length]; exact p.here rh (.int _) t⟩
    · exact t.elim
  · exact t.elim
inductive Ty where | tuple | list | int | bool | str | dict
def Ty.name : Ty → String
  | .tuple => "tuple" | .list => "list" | .int => "int" | .bool => "bool" | .str => "str" | .dict => "dict"
/-- of a built-in class? none: not told here -/
def isiB (S : HD) : Ty → D → Option Bool
  | t, .non => some false
  | t, .bl _ => some (match t with | .int => true | .bool => true | _ => false)
  | t, .int _ => some (match t with | .int => true | _ => false)
  | t, .str _ => some (match t with | .str => true | _ => false)
  | t, .tup _ => some (match t with | .tuple => true | _ => false)
  | t, .lst _ => some (match t with | .list => true | _ => false)
  | t, .dic _ => some (match t with | .dict => true | _ => false)
  | t, .ref a => match S.hp a with
    | some (.lst _) => some (match t with | .list => true | _ => false)
    | some (.dic _) => some (match t with | .dict => true | _ => false)
    | _ => none
  | _, .ty _ => none
  | _, .deck => none
def rIsiD (t : Ty) : SpD := fun ds S Q => match ds with
  | [d, .ty n] => n = t.name ∧ (match isiB S t d with
    | some b => Q (.bl b) S
    | none => False)
  | _ => False
def vty : D → String
  | .non => "NoneType" | .bl _ => "bool" | .int _ => "int" | .str _ => "str" | .tup _ => "tuple" | .lst _ => "list" | .dic _ => "dict" | _ => ""
theorem call_isiRD (t : Ty) : CallRD X (.builtin "isinstance") (rIsiD t) := .of call_isi fun G S H ds vs Qd Q rh rd h p => by
  unfold rIsiD at h
  split at h
  · rename_i d n
    obtain ⟨rfl, h⟩ := h
    split at h
    · rename_i b e
      cases rd with
      | cons q1 r1 =>
        cases r1 with
        | cons q2 r2 =>
          cases r2; cases q2
          have go : ∀ (T : String) {v : V}, TyX X.K H v (.type T) → kitB T t.name = some b → rIsi X.K [v, .ty t.name] H Q := fun T v ty k => ⟨v, .ty t.name, .type T, .type t.name, b, rfl, .ty _, ty, kit_ty k, p.here rh (.bl _) h⟩
          cases q1 with
          | non => cases e; exact go "NoneType" (.base .non) (by cases t <;> decide +kernel)
          | bl x => cases e; exact go "bool" (.base (.bl x)) (by cases t <;> decide +kernel)
          | int x => cases e; exact go "int" (.base (.int x)) (by cases t <;> decide +kernel)
          | str x => cases e; exact go "str" (.base (.str x)) (by cases t <;> decide +kernel)
          | tup h1 r =>
            cases e
            refine go "tuple" ?_ (by cases t <;> decide +kernel)
            rcases h1 with ⟨_, h1 | ⟨o, h1⟩⟩ | ⟨o, its, m, h1, h2, _⟩
            · exact .base (.tup h1)
            · exact .fTuple h1
            · exact .kTuple h1 h2
          | lst h1 r =>
            cases e
            refine go "list" ?_ (by cases t <;> decide +kernel)
            rcases h1 with ⟨_, h1 | ⟨o, h1⟩⟩ | ⟨o, its, m, h1, h2, _⟩
            · exact .base (.lst h1)
            · exact .base (.frz h1)
            · exact .kList h1 h2
          | dic h1 r =>
            cases e
            refine go "dict" ?_ (by cases t <;> decide +kernel)
            rcases h1 with ⟨_, h1 | ⟨o, h1⟩⟩
            · exact .base (.dK h1)
            · exact .fDict h1
          | ref a =>
            simp only [isiB] at e
            split at e
            · rename_i xs e1
              obtain ⟨_, _, ws, h1, _⟩ := rh.hp a _ e1
              cases e
              exact go "list" (.base (.lst h1)) (by cases t <;> decide +kernel)
            · rename_i xs e1
              obtain ⟨_, _, ws, h1, _⟩ := rh.hp a _ e1
              cases e
              exact go "dict" (.base (.dK h1)) (by cases t <;> decide +kernel)
            · cases e
          | ty _ => cases e
          | deck _ => cases e
    · exact h.elim
  · exact h.elim
/-- tuple(x) -/
def rTupleD : SpD := fun ds S Q => match ds with
  | [d] => match asSeq S d with
    | some xs => Q (.tup xs) S
    | none => False
  | _ => False
theorem call_tupleRD : CallRD X (.type "tuple") rTupleD := .of call_tuple_of fun G S H ds vs Qd Q rh rd t p => by
  unfold rTupleD at t
  split at t
  · split at t
    · rename_i d xs e
      cases rd with
      | cons q1 r1 =>
        cases r1
        cases q1 with
        | tup h1 r => cases e; exact ⟨_, _, rfl, .inr ⟨h1.sq, p.here rh (.tup h1 r) t⟩⟩
        | lst h1 r => cases e; exact ⟨_, _, rfl, .inl ⟨h1.sq, fun l hl => p.newT rh r t hl⟩⟩
        | ref a =>
          obtain ⟨q, ws, e2, l, r⟩ := asLst_ok (xs := xs) rh (show asLst S (.ref a) = some xs from e) (.ref a)
          cases e2
          exact ⟨_, _, rfl, .inl ⟨l, fun l hl => p.newT rh r t hl⟩⟩
        | _ => cases e
    · exact t.elim
  · exact t.elim
/-- list(x), frozen; list(x), tracked -/
def rListV : SpD := fun ds S Q => match ds with
  | [d] => match asSeq S d with
    | some xs => Q (.lst xs) S
    | none => False
  | _ => False
def rListR : SpD := fun ds S Q => match ds with
  | [d] => match asSeq S d with
    | some xs => ∀ p, S.hp p = none → Q (.ref p) (S.set p (.lst xs))
    | none => False
  | _ => False
theorem call_listV : CallRD X (.type "list") rListV := .of call_list_of fun G S H ds vs Qd Q rh rd t p => by
  unfold rListV at t
  split at t
  · split at t
    · rename_i d xs e
      cases rd with
      | cons q1 r1 =>
        cases r1
        obtain ⟨a, ws, rfl, l, r⟩ := asSeq_ok rh e q1
        exact ⟨a, ws, rfl, l, fun l hl => p.newL rh r t hl⟩
    · exact t.elim
  · exact t.elim
theorem call_listR : CallRD X (.type "list") rListR := .of call_list_of fun G S H ds vs Qd Q rh rd t p => by
  unfold rListR at t
  split at t
  · split at t
    · rename_i d xs e
      cases rd with
      | cons q1 r1 =>
        cases r1
        obtain ⟨a, ws, rfl, l, r⟩ := asSeq_ok rh e q1
        exact ⟨a, ws, rfl, l, fun l hl => p.newR rh r t hl⟩
    · exact t.elim
  · exact t.elim
def rIntD : SpD := fun ds S Q => match ds with
  | [.int i] => Q (.int i) S
  | [.bl b] => Q (.int (if b then 1 else 0)) S
  | _ => False
theorem call_intRD : CallRD X (.type "int") rIntD := .of call_int1 fun G S H ds vs Qd Q rh rd t p => by
  unfold rIntD at t
  split at t
  · cases rd with
    | cons q1 r1 => cases r1; cases q1; exact .inl ⟨_, rfl, p.here rh (.int _) t⟩
  · cases rd with
    | cons q1 r1 => cases r1; cases q1; exact .inr ⟨_, rfl, p.here rh (.int _) t⟩
  · exact t.elim
def rBoolD : SpD := fun ds S Q => match ds with
  | [.int i] => Q (.bl (i != 0)) S
  | [.bl b] => Q (.bl b) S
  | _ => False
theorem call_boolRD : CallRD X (.type "bool") rBoolD := .of call_bool1 fun G S H ds vs Qd Q rh rd t p => by
  unfold rBoolD at t
  split at t
  · cases rd with
    | cons q1 r1 => cases r1; cases q1; exact .inl ⟨_, rfl, p.here rh (.bl _) t⟩
  · cases rd with
    | cons q1 r1 => cases r1; cases q1; exact .inr ⟨_, rfl, p.here rh (.bl _) t⟩
  · exact t.elim
def rStrD : SpD := fun ds S Q => match ds with
  | [.int i] => i.natAbs.log2 < 1920 ∧ Q (.str (toString i)) S
  | _ => False
theorem call_strRD : CallRD X (.type "str") rStrD := .of call_str_int fun G S H ds vs Qd Q rh rd t p => by
  unfold rStrD at t
  split at t
  · cases rd with
    | cons q1 r1 => cases r1; cases q1; exact ⟨_, rfl, t.1, p.here rh (.str _) t.2⟩
  · exact t.elim
def rAbsD : SpD := fun ds S Q => match ds with
  | [.int i] => Q (.int (if i < 0 then -i else i)) S
  | _ => False
theorem call_absRD : CallRD X (.builtin "abs") rAbsD := .of call_abs fun G S H ds vs Qd Q rh rd t p => by
  unfold rAbsD at t
  split at t
  · cases rd with
    | cons q1 r1 => cases r1; cases q1; exact ⟨_, rfl, p.here rh (.int _) t⟩
  · exact t.elim
def rMax2 : SpD := fun ds S Q => match ds with
  | [.int i, .int j] => Q (.int (if j > i then j else i)) S
  | _ => False
def rMin2 : SpD := fun ds S Q => match ds with
  | [.int i, .int j] => Q (.int (if j < i then j else i)) S
  | _ => False
theorem call_max2RD (hc : X.calm = true := by rfl) : CallRD X (.builtin "max") rMax2 := .of (call_max2 hc) fun G S H ds vs Qd Q rh rd t p => by
  unfold rMax2 at t
  split at t
  · cases rd with
    | cons q1 r1 =>
      cases r1 with
      | cons q2 r2 => cases r2; cases q1; cases q2; exact ⟨_, _, rfl, p.here rh (.int _) t⟩
  · exact t.elim
theorem call_min2RD (hc : X.calm = true := by rfl) : CallRD X (.builtin "min") rMin2 := .of (call_min2 hc) fun G S H ds vs Qd Q rh rd t p => by
  unfold rMin2 at t
  split at t
  · cases rd with
    | cons q1 r1 =>
      cases r1 with
      | cons q2 r2 => cases r2; cases q1; cases q2; exact ⟨_, _, rfl, p.here rh (.int _) t⟩
  · exact t.elim

/-! ### items and slices -/
theorem atI_rds {K : PySem.W.Frag} {G : Addr → Prop} {S : HD} {H : Hp} {ds : List D} {vs : List V} {i : Int} {d : D} (r : RDs K G S H ds vs) (h : atI ds i = some d) : ∃ v, atI vs i = some v ∧ RD K G S H d v := by
  unfold atI at h ⊢
  rw [← r.length]
  cases e : ixN ds.length i with
  | none => rw [e] at h; cases h
  | some j => rw [e] at h; exact r.get h
def rIxD : R2D := fun x y S Q => match x, y with
  | .str z, .int i => z.length ≤ sizeLine ∧ (match atI z.cps.toList i with
    | some c => Q (.str ⟨#[c]⟩) S
    | none => False)
  | x, .int i => (match asSeq S x with
    | some xs => (match atI xs i with
      | some d => Q d S
      | none => False)
    | none => False)
  | _, _ => False
theorem ix2 {K : PySem.W.Frag} : Op2 K (rIx K) rIxD := fun G S H d1 d2 v1 v2 Qd Q rh q1 q2 t p => by
  unfold rIxD at t
  split at t
  · cases q1; cases q2
    obtain ⟨hz, t⟩ := t
    split at t
    · rename_i c e
      exact .inr (.inr ⟨_, _, c, rfl, rfl, hz, e, p.here rh (.str _) t⟩)
    · exact t.elim
  · cases q2
    split at t
    · rename_i xs e
      split at t
      · rename_i d e2
        obtain ⟨a, ws, rfl, l, r⟩ := asSeq_ok rh e q1
        obtain ⟨v, h1, h2⟩ := atI_rds r e2
        rcases l with l | l
        · exact .inl ⟨a, ws, _, v, rfl, rfl, l, h1, p.here rh h2 t⟩
        · exact .inr (.inl ⟨a, ws, _, v, rfl, rfl, l, h1, p.here rh h2 t⟩)
      · exact t.elim
    · exact t.elim
  · exact t.elim
theorem de_ix (ha : DE X a ta) (hb : DE X b tb) (hs : PlainIx b := by exact fun _ _ => rfl) : DE X (.Subscript a b pos) (tBin rIxD ta tb) := (pe_ix ix_seq ha hb hs).imp (up_bin ix2)
/-- the ends of a slice -/
abbrev TOD := SD → HD → (Option Int → HD → Prop) → Prop
def upO (K : PySem.W.Frag) (t : TOD) : TO := fun σ H Q => ∃ G σd S Qd, RSl K G S H σd σ ∧ RH K G S H ∧ t σd S Qd ∧ ∀ S' o H', FL S H S' H' → RH K G S' H' → Qd o S' → Q o H'
abbrev DO (X : Cx) (e : Option Expr) (t : TOD) : Prop := PO X e (upO X.K t)
theorem _root_.L2.PO.imp {X : Cx} {e : Option Expr} {t t' : TO} (h : PO X e t) (i : ∀ σ H Q, t' σ H Q → t σ H Q) : PO X e t' := ⟨fun pins s σ H Q I q => h.run pins s σ H Q I (i _ _ _ q)⟩
def oNone : TOD := fun _ S Q => Q none S
def oSome (t : TED) : TOD := fun σ S Q => t σ S fun d S1 => match d with
  | .int i => Q (some i) S1
  | _ => False
theorem do_none : DO X none oNone := po_none.imp fun σ H Q ⟨G, σd, S, Qd, rs, rh, t, p⟩ => p S _ H (.refl _ _) rh t
theorem do_some (h : DE X e ta) : DO X (some e) (oSome ta) := (po_some h).imp fun σ H Q ⟨G, σd, S, Qd, rs, rh, t, p⟩ => ⟨G, σd, S, _, rs, rh, t, fun S1 d v H1 f1 rh1 q1 t1 => by
  cases q1 with
  | int i => exact ⟨i, rfl, p S1 _ H1 f1 rh1 t1⟩
  | _ => exact t1.elim⟩
def cutD (xs : List D) (lo hi : Option Int) : List D := (xs.drop (HT.sIx xs.length 0 lo)).take (HT.sIx xs.length xs.length hi - HT.sIx xs.length 0 lo)
theorem RDs.cut {K : PySem.W.Frag} {G : Addr → Prop} {S : HD} {H : Hp} {ds : List D} {vs : List V} (r : RDs K G S H ds vs) (lo hi : Option Int) : RDs K G S H (cutD ds lo hi) (cutV vs lo hi) := by
  unfold cutD cutV
  rw [← r.length]
  exact (r.drop _).take _
def rSlD (x : D) (lo hi : Option Int) (S : HD) (Q : QD) : Prop := match x with
  | .str z => z.length ≤ sizeLine ∧ Q (.str (cutS z lo hi)) S
  | .tup xs => Q (.tup (cutD xs lo hi)) S
  | x => match asLst S x with
    | some xs => Q (.lst (cutD xs lo hi)) S
    | none => False
def tSlD (te : TED) (tl th : TOD) : TED := fun σ S Q => te σ S fun x S1 => tl σ S1 fun l S2 => th σ S2 fun u S3 => rSlD x l u S3 Q
theorem de_slice {lo hi : Option Expr} {tl th : TOD} {p2 : Pos} (he : DE X e ta) (hl : DO X lo tl) (hu : DO X hi th) : DE X (.Subscript e (.Slice lo hi none p2) pos) (tSlD ta tl th) :=
  (pe_slice (r := fun x lo hi H Q => rSlA X.K x lo hi H Q ∨ rSlL X.K x lo hi H Q ∨ rSlS x lo hi H Q) (sl_tupA.or (sl_list.or sl_str)) he hl hu).imp fun σ H Q ⟨G, σd, S, Qd, rs, rh, t, p⟩ =>
    ⟨G, σd, S, _, rs, rh, t, fun S1 d v H1 f1 rh1 q1 t1 => ⟨G, σd, S1, _, rs.fl f1, rh1, t1, fun S2 l H2 f2 rh2 t2 => ⟨G, σd, S2, _, rs.fl (f1.trans f2), rh2, t2, fun S3 u H3 f3 rh3 t3 => by
      have q3 := q1.fl (f2.trans f3)
      have p3 := p.fl (f1.trans (f2.trans f3))
      unfold rSlD at t3
      split at t3
      · cases q3; exact .inr (.inr ⟨_, rfl, t3.1, p3.here rh3 (.str _) t3.2⟩)
      · rename_i xs
        cases q3 with
        | @tup a vs _ h1 r1 =>
          refine .inl ⟨a, vs, rfl, h1.sq, fun hw => ?_, fun _ q hq => p3.newT rh3 (r1.cut l u) t3 hq⟩
          have e : cutD xs l u = xs := by
            unfold cutD
            rw [r1.length, hw.1, hw.2, ← r1.length]
            simp
          rw [e] at t3
          exact p3.here rh3 (.tup h1 r1) t3
      · split at t3
        · rename_i xs e1
          obtain ⟨a, ws, rfl, l1, r⟩ := asLst_ok rh3 e1 q3
          exact .inr (.inl ⟨a, ws, rfl, l1, fun q hq => p3.newL rh3 (r.cut l u) t3 hq⟩)
        · exact t3.elim⟩⟩⟩

/-! ### what is walked -/
theorem itOk_list {K : PySem.W.Frag} {G' : Addr → Prop} {S : HD} {H : Hp} {a : Addr} {xs : List D} {keep : HD → Prop} (h : ∀ S1 H1, FL S H S1 H1 → RH K G' S1 H1 → keep S1 → ∃ vs, SqL K H1 a vs ∧ RDs K G' S1 H1 xs vs) : ItOk K G' S H (Itl K a) xs keep where
  go := fun i d S1 H1 hx f r k => by
    obtain ⟨vs, h1, h2⟩ := h S1 H1 f r k
    obtain ⟨v, e1, e2⟩ := h2.get hx
    refine ⟨⟨vs, v, h1, e1⟩, fun x H2 y => ?_⟩
    obtain ⟨rfl, y⟩ := y
    have := y vs h1
    rw [e1] at this
    cases this
    exact ⟨.refl _ _, r, e2⟩
  stop := fun S1 H1 f r k => by
    obtain ⟨vs, h1, h2⟩ := h S1 H1 f r k
    exact ⟨vs, h1, by rw [h2.length]; exact Nat.le_refl _⟩
theorem itOk_tup {K : PySem.W.Frag} {G' : Addr → Prop} {S : HD} {H : Hp} {a : Addr} {xs : List D} {keep : HD → Prop} (h : ∀ S1 H1, FL S H S1 H1 → RH K G' S1 H1 → keep S1 → ∃ vs, SqT K H1 a vs ∧ RDs K G' S1 H1 xs vs) : ItOk K G' S H (Itt K a) xs keep where
  go := fun i d S1 H1 hx f r k => by
    obtain ⟨vs, h1, h2⟩ := h S1 H1 f r k
    obtain ⟨v, e1, e2⟩ := h2.get hx
    refine ⟨⟨vs, v, h1, e1⟩, fun x H2 y => ?_⟩
    obtain ⟨rfl, y⟩ := y
    have := y vs h1
    rw [e1] at this
    cases this
    exact ⟨.refl _ _, r, e2⟩
  stop := fun S1 H1 f r k => by
    obtain ⟨vs, h1, h2⟩ := h S1 H1 f r k
    exact ⟨vs, h1, by rw [h2.length]; exact Nat.le_refl _⟩
theorem itOk_rng {K : PySem.W.Frag} {G' : Addr → Prop} {S : HD} {H : Hp} {lo : Int} {n : Nat} {keep : HD → Prop} : ItOk K G' S H (Itr lo n) ((List.range n).map fun (i : Nat) => D.int (lo + i)) keep where
  go := fun i d S1 H1 hx f r k => by
    rw [List.getElem?_map] at hx
    cases e : (List.range n)[i]? with
    | none => rw [e] at hx; cases hx
    | some j =>
      rw [e] at hx
      obtain ⟨hi, e2⟩ := List.getElem?_eq_some_iff.mp e
      simp at hi e2
      subst e2
      cases hx
      refine ⟨hi, fun x H2 y => ?_⟩
      obtain ⟨rfl, rfl⟩ := y
      exact ⟨.refl _ _, r, .int _⟩
  stop := fun S1 H1 f r k => by
    show n ≤ _
    simp
/-- a list or a tuple, told by its value -/
def iAny (K : PySem.W.Frag) (tl : TE) : TI := fun σ H R => tl σ H fun x H1 => ∃ a, x = .ref a ∧ ((∃ xs, SqL K H1 a xs ∧ R (Itl K a) H1) ∨ ∃ xs, SqT K H1 a xs ∧ R (Itt K a) H1)
theorem pi_any {X : Cx} {tg l : Expr} {tl : TE} (hl : PE X l tl) : PI X tg l (iAny X.K tl) := by
  refine ⟨fun pins s σ H R I h => thn (hl.run pins s σ H _ I h) fun v s1 hv => ?_⟩
  obtain ⟨x, H1, I1, rx, a, rfl, q⟩ := hv
  cases rx
  have fp : ∀ b ∈ [s1.heap.objs.size], FpOk X pins H1 b := fun b hb => by
    obtain rfl : b = s1.heap.objs.size := by simpa using hb
    exact I1.fpOk (Nat.le_refl _) (I1.hok.fresh (Nat.le_refl _))
  rcases q with ⟨xs, hq, q⟩ | ⟨xs, hq, q⟩
  · obtain ⟨its, rv, pl, hz⟩ := I1.list hq
    exact wpAny_pyIter_list pl.isList ⟨s1.heap.objs.size, [s1.heap.objs.size], _, _, H1, rfl, I1.kept (t' := s1.toks) (fun b o e => Heap.get?_push_of_some _ e), turn_list a _, ⟨_, Heap.get?_push_size _ rfl, rfl, rfl⟩, fp, q⟩
  · obtain ⟨its, rv, pl, hz⟩ := I1.tuple hq
    exact wpAny_pyIter_tuple (show s1.heap.IsTuple a its.toArray from pl) ⟨s1.heap.objs.size, [s1.heap.objs.size], _, _, H1, rfl, I1.kept (t' := s1.toks) (fun b o e => Heap.get?_push_of_some _ e), turn_tuple a _, ⟨_, Heap.get?_push_size _ rfl, rfl, rfl⟩, fp, q⟩
def iSeqD (te : TED) : TID := fun σ S R => te σ S fun d S1 => match d with
  | .tup xs => xs.length ≤ sizeLine → R xs (fun _ => True) S1
  | .lst xs => xs.length ≤ sizeLine → R xs (fun _ => True) S1
  | .ref a => (match S1.hp a with
    | some (.lst xs) => xs.length ≤ sizeLine → R xs (fun S => S.hp a = some (.lst xs)) S1
    | _ => False)
  | _ => False
theorem FzT.mv {K : PySem.W.Frag} {G G' : Addr → Prop} {S S' : HD} {H H' : Hp} (m : Mv G S H G' S' H') {a : Addr} {vs : List V} (h : FzT K G S H a vs) : FzT K G' S' H' a vs := h.imp (fun z => m.rd z) id
theorem FzL.mv {K : PySem.W.Frag} {G G' : Addr → Prop} {S S' : HD} {H H' : Hp} (m : Mv G S H G' S' H') {a : Addr} {vs : List V} (h : FzL K G S H a vs) : FzL K G' S' H' a vs := h.imp (fun z => m.rd z) id
theorem di_seq {X : Cx} {tg l : Expr} {tl : TED} (hl : DE X l tl) : DI X tg l (iSeqD tl) :=
  (pi_any (PE.szs hl)).imp fun σ H R ⟨G, σd, S, Rd, rs, rh, t, p⟩ => ⟨G, σd, S, _, rs, rh, t, fun S1 d v H1 f1 rh1 q1 t1 hz => by
    cases q1 with
    | @tup a vs xs h1 r =>
      exact ⟨a, rfl, .inr ⟨vs, h1.sq, p S1 _ _ _ H1 f1 rh1 (fun G' S2 H2 m2 rh2 => itOk_tup fun S3 H3 f3 rh3 _ => ⟨vs, ((h1.mv m2).mv f3.mv).sq, (r.mv m2).fl f3⟩) (t1 (by rw [r.length]; exact hz.2 _ _ h1.sq))⟩⟩
    | @lst a vs xs h1 r =>
      exact ⟨a, rfl, .inl ⟨vs, h1.sq, p S1 _ _ _ H1 f1 rh1 (fun G' S2 H2 m2 rh2 => itOk_list fun S3 H3 f3 rh3 _ => ⟨vs, ((h1.mv m2).mv f3.mv).sq, (r.mv m2).fl f3⟩) (t1 (by rw [r.length]; exact hz.1 _ _ h1.sq))⟩⟩
    | ref a =>
      simp only at t1
      split at t1
      · rename_i xs e
        obtain ⟨_, _, vs, e1, r⟩ := rh1.hp a _ e
        refine ⟨a, rfl, .inl ⟨vs, SqL.of e1, p S1 _ _ _ H1 f1 rh1 (fun G' S2 H2 m2 rh2 => itOk_list fun S3 H3 f3 rh3 k3 => ?_) (t1 (by rw [r.length]; exact hz.1 _ _ (SqL.of e1)))⟩⟩
        obtain ⟨_, _, ws, e2, r2⟩ := rh3.hp a _ k3
        exact ⟨ws, SqL.of e2, r2⟩
      · exact t1.elim
    | _ => exact t1.elim⟩
/-- range(n), range(a, b) -/
def rngD (lo : Int) (n : Nat) : List D := (List.range n).map fun (i : Nat) => D.int (lo + i)
theorem rngD_len (lo : Int) (n : Nat) : (rngD lo n).length = n := by simp [rngD]
def iRng1D (ta : TAD) : TID := fun σ S R => ta σ S fun ds S1 => match ds with
  | [.int j] => (-1000000000 ≤ j ∧ j ≤ 10000000) ∧ R (rngD 0 j.toNat) (fun _ => True) S1
  | _ => False
def iRng2D (ta : TAD) : TID := fun σ S R => ta σ S fun ds S1 => match ds with
  | [.int i, .int j] => (-1000000000 ≤ i ∧ i ≤ 1000000000 ∧ -1000000000 ≤ j ∧ j ≤ 1000000000 ∧ j - i ≤ 10000000) ∧ R (rngD i (j - i).toNat) (fun _ => True) S1
  | _ => False
theorem di_range1 {X : Cx} {tg a : Expr} {ta : TAD} {p pos : Pos} (hm : X.mg "range" = none) (ha : DA X [a] ta) (hg : Gl X "range" := by rfl) (hs : starEach [a] X.env = [(false, eval a X.env)] := by rfl) : DI X tg (.Call (.Name "range" p) [a] [] pos) (iRng1D ta) :=
  (pi_range1 hg hm ha hs).imp fun σ H R ⟨G, σd, S, Rd, rs, rh, t, p⟩ => ⟨G, σd, S, _, rs, rh, t, fun S1 ds vs H1 f1 rh1 q1 t1 => by
    split at t1
    · cases q1 with
      | cons q r =>
        cases r; cases q
        exact ⟨_, rfl, by omega, by omega, p S1 _ _ _ H1 f1 rh1 (fun G' S2 H2 m2 rh2 => itOk_rng) t1.2⟩
    · exact t1.elim⟩
theorem di_range2 {X : Cx} {tg a b : Expr} {ta : TAD} {p pos : Pos} (hm : X.mg "range" = none) (ha : DA X [a, b] ta) (hg : Gl X "range" := by rfl) (hs : starEach [a, b] X.env = [(false, eval a X.env), (false, eval b X.env)] := by rfl) (hs2 : starEach [b] X.env = [(false, eval b X.env)] := by rfl) :
    DI X tg (.Call (.Name "range" p) [a, b] [] pos) (iRng2D ta) :=
  (pi_range2 hg hm ha hs hs2).imp fun σ H R ⟨G, σd, S, Rd, rs, rh, t, p⟩ => ⟨G, σd, S, _, rs, rh, t, fun S1 ds vs H1 f1 rh1 q1 t1 => by
    split at t1
    · cases q1 with
      | cons q r =>
        cases r with
        | cons q' r' =>
          cases r'; cases q; cases q'
          exact ⟨_, _, rfl, ⟨by omega, by omega, by omega, by omega⟩, p S1 _ _ _ H1 f1 rh1 (fun G' S2 H2 m2 rh2 => itOk_rng) t1.2⟩
    · exact t1.elim⟩

/-! ### methods of tracked lists, stores -/
theorem RH.writeL {K : PySem.W.Frag} {G : Addr → Prop} {S : HD} {H : Hp} (rh : RH K G S H) {a : Addr} {xs ys : List D} {ws : List V} (h : S.hp a = some (.lst xs)) (r : RDs K G S H ys ws) : RH K G (S.set a (.lst ys)) (upd H a (.lst ws)) ∧ FL S H (S.set a (.lst ys)) (upd H a (.lst ws)) := by
  have m : Mv G S H G (S.set a (.lst ys)) (upd H a (.lst ws)) := ⟨fun b o e z => by
    have ne : b ≠ a := fun q => by rw [← q, z.1] at h; cases h
    exact ⟨⟨by rw [HD.set_ne ne]; exact z.1, z.2.1, z.2.2⟩, by rw [upd_ne ne]; exact e⟩, fun _ e => e⟩
  exact rh.write h ⟨ws, upd_same, r.mv m⟩
/-- xs.append(v) -/
def tMethD (rd : D → List D → HD → QD → Prop) (to : TED) (ta : TAD) : TED := fun σ S Q => to σ S fun x S1 => ta σ S1 fun ds S2 => rd x ds S2 Q
def rAppD : D → List D → HD → QD → Prop := fun x ds S Q => match x, ds with
  | .ref a, [d] => (match S.hp a with
    | some (.lst xs) => xs.length < 16000000 ∧ Q .non (S.set a (.lst (xs ++ [d])))
    | _ => False)
  | _, _ => False
def isRefL (S : HD) : D → Prop
  | .ref a => ∃ xs, S.hp a = some (.lst xs)
  | _ => False
section
variable {X : Cx} {o e : Expr} {es : List Expr} {to : TED} {ta : TAD} {name : Str} {apos cpos : Pos}
/-- o.m(e, ..) of a tracked list; the receiver is told before the arguments are -/
def tMethL (rd : D → List D → HD → QD → Prop) (to : TED) (ta : TAD) : TED := fun σ S Q => to σ S fun x S1 => isRefL S1 x ∧ ta σ S1 fun ds S2 => rd x ds S2 Q
theorem de_methL {id : String} {r : V → List V → Hp → VK → Prop} {rd : D → List D → HD → QD → Prop} (slot : Slot "list" name id) (hty : typeOf (.builtin id) = pure (.type "method_descriptor")) (hm : MtR X id r)
    (i : ∀ G S H d v ds vs Qd Q, RH X.K G S H → RD X.K G S H d v → RDs X.K G S H ds vs → rd d ds S Qd → Post X.K G S H Qd Q → r v vs H Q) (ho : DE X o to) (ha : DA X (e :: es) ta)
    (hbase : attributeBase o name X.env (eval o X.env) = eval o X.env := by rfl)
    (hfew : ((backTo cpos (starEach (e :: es) X.env)).all (fun x => !x.1) && (backToKw cpos (keywordEach [] X.env)).all (fun x => x.1.isSome)
      && decide ((e :: es).length + ([] : List Keyword).length + (if ([] : List Keyword).isEmpty then 0 else 1) < 30)) = true := by rfl)
    (hline : (apos.endLine == cpos.line) = true := by rfl) (hs : starEach (e :: es) X.env = (false, eval e X.env) :: starEach es X.env := by rfl) (hplain : (backTo cpos (starEach es X.env)).any (·.1) = false := by rfl) :
    DE X (.Call (.Attribute o name apos) (e :: es) [] cpos) (tMethL rd to ta) :=
  (pe_bm PySem.F.plainAttrs_list slot hty hm ho ha hbase hfew hline hs hplain).imp fun σ H Q ⟨G, σd, S, Qd, rs, rh, t, p⟩ => ⟨G, σd, S, _, rs, rh, t, fun S1 d v H1 f1 rh1 q1 ⟨hl, t1⟩ => by
    cases q1 with
    | ref a =>
      obtain ⟨xs, e1⟩ := hl
      obtain ⟨_, _, ws, e2, _⟩ := rh1.hp a _ e1
      exact ⟨.inl ⟨rfl, _, SqL.of e2⟩, G, σd, S1, _, rs.fl f1, rh1, t1, fun S2 ds vs H2 f2 rh2 q2 t2 => i G S2 H2 _ _ ds vs _ _ rh2 (.ref a) q2 t2 (p.fl (f1.trans f2))⟩
    | _ => exact hl.elim⟩
theorem appD_ok {K : PySem.W.Frag} : ∀ G S H d v ds vs Qd Q, RH K G S H → RD K G S H d v → RDs K G S H ds vs → rAppD d ds S Qd → Post K G S H Qd Q → rAppend v vs H Q := by
  intro G S H d v ds vs Qd Q rh q1 q2 t p
  unfold rAppD at t
  split at t
  · rename_i a d
    split at t
    · rename_i xs e
      obtain ⟨_, _, ws, e1, r⟩ := rh.hp a _ e
      cases q1
      cases q2 with
      | @cons _ y _ _ q2 r2 =>
        cases r2
        obtain ⟨rh', f'⟩ := rh.writeL e (r.append (.cons q2 .nil))
        exact ⟨a, ws, y, rfl, rfl, e1, by have := r.length; have : (sizeLine : Nat) = 16777216 := rfl; omega, p _ _ _ _ f' rh' .non t.2⟩
    · exact t.elim
  · exact t.elim
theorem de_append (ho : DE X o to) (ha : DA X [e] ta) (hbase : attributeBase o "append" X.env (eval o X.env) = eval o X.env := by rfl)
    (hfew : ((backTo cpos (starEach (e :: []) X.env)).all (fun x => !x.1) && (backToKw cpos (keywordEach [] X.env)).all (fun x => x.1.isSome)
      && decide ((e :: ([] : List Expr)).length + ([] : List Keyword).length + (if ([] : List Keyword).isEmpty then 0 else 1) < 30)) = true := by rfl)
    (hline : (apos.endLine == cpos.line) = true := by rfl) (hs : starEach (e :: []) X.env = (false, eval e X.env) :: starEach [] X.env := by rfl) : DE X (.Call (.Attribute o "append" apos) [e] [] cpos) (tMethL rAppD to ta) :=
  de_methL PySem.F.slot_list_append PySem.F.type_list_append mt_append appD_ok ho ha hbase hfew hline hs rfl
end
end
end PD
end

section
/-! PD10: chains of comparisons, stores into lists, the deck of draws. -/
namespace PD
open PySem PySem.Spec PyProof.Rows L2

section
variable {X : Cx} {a b c e o i : Expr} {ta tb tc to ti : TED} {pos : Pos}
theorem up_chain {K : PySem.W.Frag} {r r' : R2} {rd rd' : R2D} (h : Op2 K r rd) (h' : Op2 K r' rd') : ∀ σ H Q, up K (tChainD rd rd' ta tb tc) σ H Q → tChain r r' (up K ta) (up K tb) (up K tc) σ H Q := fun σ H Q ⟨G, σd, S, Qd, rs, rh, t, p⟩ =>
  ⟨G, σd, S, _, rs, rh, t, fun S1 d v H1 f1 rh1 q1 t1 => ⟨G, σd, S1, _, rs.fl f1, rh1, t1, fun S2 d2 v2 H2 f2 rh2 q2 t2 => h G S2 H2 d d2 v v2 _ _ rh2 (q1.fl f2) q2 t2 fun S3 z vz H3 f3 rh3 q3 t3 => by
    cases q3 with
    | bl k =>
      refine ⟨k, rfl, ?_⟩
      cases k with
      | true => exact iteT ⟨G, σd, S3, _, rs.fl (f1.trans (f2.trans f3)), rh3, t3, fun S4 d4 v4 H4 f4 rh4 q4 t4 => h' G S4 H4 d2 d4 v2 v4 _ _ rh4 (q2.fl (f3.trans f4)) q4 t4 (p.fl (f1.trans (f2.trans (f3.trans f4))))⟩
      | false => exact iteF (p S3 _ _ H3 (f1.trans (f2.trans f3)) rh3 (.bl false) t3)
    | _ => exact t3.elim⟩⟩
theorem de_chain {op op' : CmpOp} {r r' : R2} {rd rd' : R2D} (ho : OpR X (compareOp op) r) (ho' : OpR X (compareOp op') r') (h : Op2 X.K r rd) (h' : Op2 X.K r' rd') (ha : DE X a ta) (hb : DE X b tb) (hc : DE X c tc)
    (hm : lastMarks [op, op'] [b, c] = false := by with_unfolding_all rfl) : DE X (.Compare a [op, op'] [b, c] pos) (tChainD rd rd' ta tb tc) := (pe_chain ho ho' ha hb hc hm).imp (up_chain h h')
theorem dt_chain {op op' : CmpOp} {r r' : R2} {rd rd' : R2D} (ho : OpR X (compareOp op) r) (ho' : OpR X (compareOp op') r') (h : Op2 X.K r rd) (h' : Op2 X.K r' rd') (ha : DE X a ta) (hb : DE X b tb) (hc : DE X c tc)
    (hm : lastMarks [op, op'] [b, c] = false := by with_unfolding_all rfl) : DT X (.Compare a [op, op'] [b, c] pos) (tTst (tChainD rd rd' ta tb tc)) :=
  (pt_chain ho ho' ha hb hc hm).imp fun σ H Q ⟨G, σd, S, Qd, rs, rh, t, p⟩ => up_chain h h' σ H _ ⟨G, σd, S, _, rs, rh, t, fun S1 d v H1 f1 rh1 q1 t1 => by
    cases q1 with
    | bl k => exact ⟨k, rfl, p S1 k H1 f1 rh1 t1⟩
    | _ => exact t1.elim⟩

/-! ### xs[i] = e -/
def rSetD (o i v : D) (S : HD) (Q : HD → Prop) : Prop := match o, i with
  | .ref a, .int k => (match S.hp a with
    | some (.lst xs) => (match ixN xs.length k with
      | some j => Q (S.set a (.lst (xs.set j v)))
      | none => False)
    | _ => False)
  | _, _ => False
def gSubD (to ti : TED) : TGD := fun v σ S Q => to σ S fun o S1 => ti σ S1 fun i S2 => rSetD o i v S2 fun S3 => Q σ S3
theorem dg_sub (ho : DE X o to) (hi : DE X i ti)
    (ha : ∀ v, assign (.Subscript o i pos) X.env v = (do
      let ov ← holding [v] (eval o X.env)
      let iv ← holding [v, ov] (eval i X.env)
      standAt pos
      holding [v, ov, iv] (setItem ov iv v)
      release [v, ov, iv] []) := by intro _; rfl) : DG X (.Subscript o i pos) (gSubD to ti) :=
  (pg_sub ho hi set_list ha).imp fun v σ H Q ⟨G, σd, S, d, Qd, rs, rh, q, t, p⟩ =>
    ⟨G, σd, S, _, rs, rh, t, fun S1 d1 v1 H1 f1 rh1 q1 t1 => ⟨G, σd, S1, _, rs.fl f1, rh1, t1, fun S2 d2 v2 H2 f2 rh2 q2 t2 => by
      unfold rSetD at t2
      split at t2
      · split at t2
        · rename_i xs e
          split at t2
          · rename_i j ej
            cases q1
            cases q2
            obtain ⟨_, _, ws, e1, r⟩ := rh2.hp _ _ e
            obtain ⟨rh', f'⟩ := rh2.writeL e (r.set (q.fl (f1.trans f2)) j)
            exact ⟨_, ws, _, j, rfl, rfl, e1, by rw [← r.length]; exact ej, p _ _ _ _ (f1.trans (f2.trans f')) rh' (rs.fl (f1.trans (f2.trans f'))) t2⟩
          · exact t2.elim
        · exact t2.elim
      · exact t2.elim⟩⟩
end

/-! ### the deck of draws -/
section
variable {K : PySem.W.Frag} {G : Addr → Prop} {S : HD} {H : Hp}
theorem rds_ints : ∀ {ns : List Int} {vs : List V}, RDs K G S H (ns.map D.int) vs → vs = ns.map V.int
  | [], _, h => by cases h; rfl
  | n :: ns, _, h => by
    cases h with
    | cons q r => cases q; rw [rds_ints r]; rfl
/-- the deck alone, opened -/
def openD (S : HD) (a b : Addr) (cells : List Int) (n : Nat) : HD := { hp := fun x => if x = a then some (.lst [.ref b, .int (n : Int)]) else if x = b then some (.lst (cells.map D.int)) else none, c := S.c, dk := none }
theorem openD_rh (rh : RH K G S H) {a b : Addr} (h : S.dk = some (a, b)) {cells : List Int} {n : Nat} (h1 : H a = some (.lst [.ref b, .int (n : Int)])) (h2 : H b = some (.lst (cells.map V.int))) : RH K G (openD S a b cells n) H where
  hp := fun x o e => by
    have nd : ¬ Dk (openD S a b cells n) x := fun ⟨p, q, _⟩ => by cases q
    simp only [openD] at e
    split at e
    · rename_i hx
      subst hx
      cases e
      exact ⟨nd, fun g => (rh.rs x g).2 ⟨_, h, .inl rfl⟩, _, h1, .cons (.ref _) (.cons (.int _) .nil)⟩
    · split at e
      · rename_i _ hx
        subst hx
        cases e
        exact ⟨nd, fun g => (rh.rs x g).2 ⟨_, h, .inr rfl⟩, _, h2, RDs.ints _⟩
      · cases e
  rs := fun x g => ⟨(rh.rs x g).1, fun ⟨p, q, _⟩ => by cases q⟩
  dk := fun _ _ e => by cases e
theorem closeD (rh : RH K G S H) {a b : Addr} (h : S.dk = some (a, b)) {cells cells' : List Int} {n m : Nat} {S1 : HD} {H1 : Hp} (f1 : FL (openD S a b cells n) H S1 H1) (rh1 : RH K G S1 H1)
    (h1 : S1.hp a = some (.lst [.ref b, .int (m : Int)])) (h2 : S1.hp b = some (.lst (cells'.map D.int))) (hl : cells'.length ≤ 63) (hp : ∀ z ∈ cells', 0 ≤ z) (hm : m ≤ S.c + 1) : FL S H (S.tick 1) H1 ∧ RH K G (S.tick 1) H1 := by
  obtain ⟨nab, ha, hb, _⟩ := rh.dk a b h
  have out : ∀ {x : Addr}, x ≠ a → x ≠ b → (openD S a b cells n).hp x = none := fun {x} n1 n2 => by simp [openD, n1, n2]
  have nd : ∀ x, ¬ Dk (openD S a b cells n) x := fun x ⟨p, q, _⟩ => by cases q
  have ne : ∀ {x : Addr}, ¬ Dk S x → x ≠ a ∧ x ≠ b := fun {x} d => ⟨fun z => d ⟨_, h, .inl z⟩, fun z => d ⟨_, h, .inr z⟩⟩
  have fl : FL S H (S.tick 1) H1 := ⟨fun x o e n d => by
    obtain ⟨n1, n2⟩ := ne d
    exact ⟨n, d, (f1.kp x o e (out n1 n2) (nd x)).2.2⟩, fun p q => q⟩
  refine ⟨fl, ⟨fun x o e => ?_, fun x g => ?_, fun c d e => ?_⟩⟩
  · obtain ⟨d, g, r⟩ := rh.hp x o e
    obtain ⟨n1, n2⟩ := ne d
    obtain ⟨u, q⟩ := r.there
    exact ⟨d, g, r.mv fl.mv (((f1.kp x u q (out n1 n2) (nd x)).2.2).trans q.symm)⟩
  · obtain ⟨⟨o, e⟩, d⟩ := rh.rs x g
    obtain ⟨n1, n2⟩ := ne d
    exact ⟨⟨o, (f1.kp x o e (out n1 n2) (nd x)).2.2⟩, d⟩
  · have e' : S.dk = some (c, d) := e
    rw [h] at e'
    cases e'
    obtain ⟨_, _, vs, e1, r1⟩ := rh1.hp _ _ h1
    obtain ⟨_, _, ws, e2, r2⟩ := rh1.hp _ _ h2
    rw [rds_ints r2] at e2
    have e3 : vs = [.ref b, .int (m : Int)] := by
      cases r1 with
      | cons q r =>
        cases r with
        | cons q' r' => cases r'; cases q; cases q'; rfl
    rw [e3] at e1
    exact ⟨nab, ha, hb, cells', m, e1, e2, hm, hl, hp⟩
/-- a new deck -/
theorem newDeck {S1 : HD} {H1 : Hp} (rh : RH K G S H) (h0 : S.dk = none) (f1 : FL S H S1 H1) (rh1 : RH K G S1 H1) (hs : ∀ x o, S.hp x = some o → S1.hp x = some o) (hd1 : S1.dk = none) {a b : Addr} {cells : List Int} (nab : a ≠ b) (na : S.hp a = none) (nb : S.hp b = none)
    (h1 : S1.hp a = some (.lst [.ref b, .int 0])) (h2 : S1.hp b = some (.lst (cells.map D.int))) (hl : cells.length ≤ 63) (hp : ∀ z ∈ cells, 0 ≤ z) : FL S H { S with dk := some (a, b), c := 0 } H1 ∧ RH K G { S with dk := some (a, b), c := 0 } H1 := by
  have nd1 : ∀ x, ¬ Dk S1 x := fun x ⟨p, q, _⟩ => by rw [hd1] at q; cases q
  have nd : ∀ x, ¬ Dk S x := fun x ⟨p, q, _⟩ => by rw [h0] at q; cases q
  have nd2 : ∀ {x : Addr}, x ≠ a → x ≠ b → ¬ Dk { S with dk := some (a, b), c := 0 } x := fun {x} n1 n2 ⟨p, q, z⟩ => by
    have q' : some (a, b) = some p := q
    cases q'
    exact z.elim n1 n2
  have ne : ∀ {x : Addr}, S1.hp x = none → x ≠ a ∧ x ≠ b := fun {x} e => ⟨fun z => (by rw [z, h1] at e; cases e), fun z => (by rw [z, h2] at e; cases e)⟩
  have back : ∀ {x : Addr}, S1.hp x = none → S.hp x = none := fun {x} e => by
    cases q : S.hp x with
    | none => rfl
    | some o => rw [hs x o q] at e; cases e
  have mv : Mv G S1 H1 G { S with dk := some (a, b), c := 0 } H1 := ⟨fun x o e z => by
    obtain ⟨n1, n2⟩ := ne z.1
    exact ⟨⟨back z.1, nd2 n1 n2, z.2.2⟩, e⟩, fun p q => by rw [hd1] at q; cases q⟩
  refine ⟨⟨fun x o e n d => ?_, fun p q => by rw [h0] at q; cases q⟩, ⟨fun x o e => ?_, fun x g => ?_, fun c d e => ?_⟩⟩
  · obtain ⟨n', d', e'⟩ := f1.kp x o e n d
    obtain ⟨n1, n2⟩ := ne n'
    exact ⟨n, nd2 n1 n2, e'⟩
  · obtain ⟨d, g, r⟩ := rh1.hp x o (hs x o e)
    have n1 : x ≠ a := fun z => by rw [z, na] at e; cases e
    have n2 : x ≠ b := fun z => by rw [z, nb] at e; cases e
    exact ⟨nd2 n1 n2, g, r.mv mv rfl⟩
  · refine ⟨(rh1.rs x g).1, nd2 (fun z => ?_) fun z => ?_⟩
    · exact (rh1.hp _ _ h1).2.1 (z ▸ g)
    · exact (rh1.hp _ _ h2).2.1 (z ▸ g)
  · have e' : some (a, b) = some (c, d) := e
    cases e'
    obtain ⟨_, _, vs, e1, r1⟩ := rh1.hp _ _ h1
    obtain ⟨_, _, ws, e2, r2⟩ := rh1.hp _ _ h2
    rw [rds_ints r2] at e2
    have e3 : vs = [.ref b, .int 0] := by
      cases r1 with
      | cons q r =>
        cases r with
        | cons q' r' => cases r'; cases q; cases q'; rfl
    rw [e3] at e1
    exact ⟨nab, na, nb, cells, 0, e1, e2, Nat.le_refl _, hl, hp⟩
end
/-- a draw: a number below m -/
def spDraw : SpD := fun ds S Q => match ds with
  | [.deck, .int m] => (1 ≤ m ∧ m ≤ 500000000 ∧ S.c < 1000000000000) ∧ ∀ r : Int, 0 ≤ r → r < m → Q (.int r) (S.tick 1)
  | _ => False
/-- the deck of a script -/
def spDeck : SpD := fun ds S Q => match ds with
  | [.lst xs] => (∃ ns : List Int, xs = ns.map D.int) ∧ S.dk = none ∧ ∀ p, Q .deck { S with dk := some p, c := 0 }
  | _ => False
/-- what the body of a draw must do, the deck open -/
def DrawOk (t : TSD) (n : Nat) : Prop := ∀ (S : HD) (a b : Addr) (cells : List Int) (k : Nat) (m : Int), a ≠ b → k < 1000000000000 → cells.length ≤ 63 → (∀ z ∈ cells, 0 ≤ z) → 1 ≤ m → m ≤ 500000000 →
  t { nx := fun _ _ => False, rt := fun d S1 => ∃ (r : Int) (cells' : List Int), d = .int r ∧ 0 ≤ r ∧ r < m ∧ S1.hp a = some (.lst [.ref b, .int ((k + 1 : Nat) : Int)]) ∧ S1.hp b = some (.lst (cells'.map D.int)) ∧ cells'.length ≤ 63 ∧ ∀ z ∈ cells', 0 ≤ z }
    (pad n [.ref a, .int m]) (openD S a b cells k)
/-- what the body that makes a deck must do -/
def DeckOk (t : TSD) (n : Nat) : Prop := ∀ (S : HD) (ns : List Int), S.dk = none →
  t { nx := fun _ _ => False, rt := fun d S1 => ∃ (a b : Addr) (cells : List Int), d = .ref a ∧ a ≠ b ∧ S.hp a = none ∧ S.hp b = none ∧ S1.hp a = some (.lst [.ref b, .int 0]) ∧ S1.hp b = some (.lst (cells.map D.int)) ∧ cells.length ≤ 63 ∧ (∀ z ∈ cells, 0 ≤ z) ∧ (∀ x o, S.hp x = some o → S1.hp x = some o) ∧ S1.dk = none }
    (pad n [.lst (ns.map D.int)]) S
section
variable {P : Program} {w : World} {K : PySem.W.Frag} {mg : Str → Option Value} {base : Heap} {x qual : Str} {st : Stmt} {f : Addr} {fd : FuncData} {N : List Str} {k : Nat}
theorem FnD.draw {p1 p2 : Str} (F : Fun K x qual st f fd) (Sc : FnScope N [p1, p2] (defScope st)) (t : TSD)
    (hd : ∀ (cdv : Value) (A : Around) (outer : List Env) (s : Shared) (H : Hp), RoomG k (A.deeper (envOfC qual (defScope st) s.heap.objs.size f cdv)) →
      DSs (cxOf CX0 P w K mg base N qual (defScope st) f cdv A outer s H E0).nox (defBody st) t)
    (ok : DrawOk t N.length) : FnD P w K mg base (k + 1) f fd [p1, p2] spDraw := by
  refine FnD.core F Sc t (fun ds S Q q => ?_) hd fun ds S Qd hsp G H vs rh rd => ?_
  · unfold spDraw at q
    split at q
    · rfl
    · exact q.elim
  · unfold spDraw at hsp
    split at hsp
    · rename_i m
      obtain ⟨⟨m1, m2, m3⟩, hsp⟩ := hsp
      cases rd with
      | cons q r =>
        cases r with
        | cons q' r' =>
          cases r'; cases q'
          cases q with
          | @deck a b e =>
            obtain ⟨nab, ha, hb, cells, n, h1, h2, h3, h4, h5⟩ := rh.dk a b e
            refine ⟨_, _, _, openD_rh rh e h1 h2, .cons (.ref a) (.cons (.int m) .nil), ok S a b cells n m nab (by omega) h4 h5 m1 m2, ?_, fun _ _ _ _ _ q => q.elim, fun _ _ q => q, fun _ _ q => q⟩
            rintro S1 d v H1 f1 rh1 rd1 ⟨r, cells', rfl, r0, r1, g1, g2, g3, g4⟩
            cases rd1
            obtain ⟨fl, rh2⟩ := closeD rh e f1 rh1 g1 g2 g3 g4 (by omega)
            exact ⟨_, .int r, fl, rh2, .int r, hsp r r0 r1⟩
    · exact hsp.elim
theorem FnD.deck {p1 : Str} (F : Fun K x qual st f fd) (Sc : FnScope N [p1] (defScope st)) (t : TSD)
    (hd : ∀ (cdv : Value) (A : Around) (outer : List Env) (s : Shared) (H : Hp), RoomG k (A.deeper (envOfC qual (defScope st) s.heap.objs.size f cdv)) →
      DSs (cxOf CX0 P w K mg base N qual (defScope st) f cdv A outer s H E0).nox (defBody st) t)
    (ok : DeckOk t N.length) : FnD P w K mg base (k + 1) f fd [p1] spDeck := by
  refine FnD.core F Sc t (fun ds S Q q => ?_) hd fun ds S Qd hsp G H vs rh rd => ?_
  · unfold spDeck at q
    split at q
    · rfl
    · exact q.elim
  · unfold spDeck at hsp
    split at hsp
    · obtain ⟨⟨ns, rfl⟩, h0, hsp⟩ := hsp
      refine ⟨_, S, _, rh, rd, ok S ns h0, ?_, fun _ _ _ _ _ q => q.elim, fun _ _ q => q, fun _ _ q => q⟩
      rintro S1 d v H1 f1 rh1 rd1 ⟨a, b, cells, rfl, nab, na, nb, h1, h2, h3, h4, h5, h6⟩
      cases rd1
      obtain ⟨fl, rh2⟩ := newDeck rh h0 f1 rh1 h5 h6 nab na nb h1 h2 h3 h4
      exact ⟨_, .deck, fl, rh2, .deck rfl, hsp (a, b)⟩
    · exact hsp.elim
end
end PD
end

section
/-! PD11: small rules that the printer of derivations uses. -/
namespace PD
open PySem PySem.Spec PyProof.Rows L2
section
variable {X : Cx} {a b c e : Expr} {ta tb tc : TED} {pos : Pos}
theorem dt_isN {j pos'} (ha : DE X a ta) : DT X (.Compare a [.Is] [.Constant .none j pos'] pos) (tTst (tUnD rIsN ta)) :=
  (pt_cmp (pc_isN ha) rfl).imp fun σ H Q ⟨G, σd, S, Qd, rs, rh, t, p⟩ => ⟨G, σd, S, _, rs, rh, t, fun S1 d v H1 f1 rh1 q1 t1 => ⟨_, rfl, by rw [isN_v q1]; exact p S1 _ H1 f1 rh1 t1⟩⟩
theorem dt_notN {j pos'} (ha : DE X a ta) : DT X (.Compare a [.IsNot] [.Constant .none j pos'] pos) (tTst (tUnD rNotN ta)) :=
  (pt_cmp (pc_notN ha) rfl).imp fun σ H Q ⟨G, σd, S, Qd, rs, rh, t, p⟩ => ⟨G, σd, S, _, rs, rh, t, fun S1 d v H1 f1 rh1 q1 t1 => ⟨_, rfl, by rw [isN_v q1]; exact p S1 _ H1 f1 rh1 t1⟩⟩
theorem de_gI {x : Str} {i : Int} {pos : Pos} (hm : ∃ t, X.mg x = some (.int i t)) (hg : Gl X x := by rfl) (hd : (x == ("__debug__" : Str)) = false := by decide) : DE X (.Name x pos) (tCD (.int i)) :=
  let ⟨_, h⟩ := hm; de_globI hg h hd
theorem de_gS {x : Str} {i : Str} {pos : Pos} (hm : ∃ t, X.mg x = some (.str i t)) (hg : Gl X x := by rfl) (hd : (x == ("__debug__" : Str)) = false := by decide) : DE X (.Name x pos) (tCD (.str i)) :=
  let ⟨_, h⟩ := hm; de_globS hg h hd
theorem de_eq {k : Nat} (hr : RoomG k X.A) (hB : SysB X.base) (ha : DE X a ta) (hb : DE X b tb) : DE X (.Compare a [.Eq] [b] pos) (tBin rEqD ta tb) := de_cmp (op_eqRD hr hB).toR lift2 ha hb (nomark _)
theorem de_ne {k : Nat} (hr : RoomG k X.A) (hB : SysB X.base) (ha : DE X a ta) (hb : DE X b tb) : DE X (.Compare a [.NotEq] [b] pos) (tBin rNeD ta tb) := de_cmp (op_neRD hr hB).toR lift2 ha hb (nomark _)
theorem dt_eq {k : Nat} (hr : RoomG k X.A) (hB : SysB X.base) (ha : DE X a ta) (hb : DE X b tb) : DT X (.Compare a [.Eq] [b] pos) (tTst (tBin rEqD ta tb)) := dt_cmp (op_eqRD hr hB).toR lift2 ha hb (nomark _)
theorem dt_ne {k : Nat} (hr : RoomG k X.A) (hB : SysB X.base) (ha : DE X a ta) (hb : DE X b tb) : DT X (.Compare a [.NotEq] [b] pos) (tTst (tBin rNeD ta tb)) := dt_cmp (op_neRD hr hB).toR lift2 ha hb (nomark _)
theorem de_lt (ha : DE X a ta) (hb : DE X b tb) : DE X (.Compare a [.Lt] [b] pos) (tBin (rCmpI fLt) ta tb) := de_cmp op_lt cmpI ha hb (nomark _)
theorem de_le (ha : DE X a ta) (hb : DE X b tb) : DE X (.Compare a [.LtE] [b] pos) (tBin (rCmpI fLe) ta tb) := de_cmp op_le cmpI ha hb (nomark _)
theorem de_gt (ha : DE X a ta) (hb : DE X b tb) : DE X (.Compare a [.Gt] [b] pos) (tBin (rCmpI fGt) ta tb) := de_cmp op_gt cmpI ha hb (nomark _)
theorem de_ge (ha : DE X a ta) (hb : DE X b tb) : DE X (.Compare a [.GtE] [b] pos) (tBin (rCmpI fGe) ta tb) := de_cmp op_ge cmpI ha hb (nomark _)
theorem dt_lt (ha : DE X a ta) (hb : DE X b tb) : DT X (.Compare a [.Lt] [b] pos) (tTst (tBin (rCmpI fLt) ta tb)) := dt_cmp op_lt cmpI ha hb (nomark _)
theorem dt_le (ha : DE X a ta) (hb : DE X b tb) : DT X (.Compare a [.LtE] [b] pos) (tTst (tBin (rCmpI fLe) ta tb)) := dt_cmp op_le cmpI ha hb (nomark _)
theorem dt_gt (ha : DE X a ta) (hb : DE X b tb) : DT X (.Compare a [.Gt] [b] pos) (tTst (tBin (rCmpI fGt) ta tb)) := dt_cmp op_gt cmpI ha hb (nomark _)
theorem dt_ge (ha : DE X a ta) (hb : DE X b tb) : DT X (.Compare a [.GtE] [b] pos) (tTst (tBin (rCmpI fGe) ta tb)) := dt_cmp op_ge cmpI ha hb (nomark _)
/-- a < b < c -/
theorem de_lele (ha : DE X a ta) (hb : DE X b tb) (hc : DE X c tc) (hm : lastMarks [.LtE, .LtE] [b, c] = false := by with_unfolding_all rfl) : DE X (.Compare a [.LtE, .LtE] [b, c] pos) (tChainD (rCmpI fLe) (rCmpI fLe) ta tb tc) := de_chain op_le op_le cmpI cmpI ha hb hc hm
theorem dt_lele (ha : DE X a ta) (hb : DE X b tb) (hc : DE X c tc) (hm : lastMarks [.LtE, .LtE] [b, c] = false := by with_unfolding_all rfl) : DT X (.Compare a [.LtE, .LtE] [b, c] pos) (tTst (tChainD (rCmpI fLe) (rCmpI fLe) ta tb tc)) := dt_chain op_le op_le cmpI cmpI ha hb hc hm
theorem de_ltle (ha : DE X a ta) (hb : DE X b tb) (hc : DE X c tc) (hm : lastMarks [.Lt, .LtE] [b, c] = false := by with_unfolding_all rfl) : DE X (.Compare a [.Lt, .LtE] [b, c] pos) (tChainD (rCmpI fLt) (rCmpI fLe) ta tb tc) := de_chain op_lt op_le cmpI cmpI ha hb hc hm
theorem dt_ltle (ha : DE X a ta) (hb : DE X b tb) (hc : DE X c tc) (hm : lastMarks [.Lt, .LtE] [b, c] = false := by with_unfolding_all rfl) : DT X (.Compare a [.Lt, .LtE] [b, c] pos) (tTst (tChainD (rCmpI fLt) (rCmpI fLe) ta tb tc)) := dt_chain op_lt op_le cmpI cmpI ha hb hc hm
/-- {} that stays empty -/
def tDicV : TED := fun _ S Q => Q (.dic []) S
theorem de_dicV : DE X (.Dict [] [] pos) tDicV := pe_dnewK.imp fun σ H Q ⟨G, σd, S, Qd, rs, rh, t, p⟩ => fun q hq => by
  obtain ⟨r', f', z⟩ := rh.newF hq (.dK [])
  exact p S _ _ _ f' r' (.dic ⟨z, .inl upd_same⟩ .nil) t
theorem bt_repr : bootBuiltins "repr" = some (.builtin "repr") := by decide +kernel
theorem bt_isinstance : bootBuiltins "isinstance" = some (.builtin "isinstance") := by decide +kernel
theorem bt_len : bootBuiltins "len" = some (.builtin "len") := by decide +kernel
theorem bt_abs : bootBuiltins "abs" = some (.builtin "abs") := by decide +kernel
theorem bt_max : bootBuiltins "max" = some (.builtin "max") := by decide +kernel
theorem bt_min : bootBuiltins "min" = some (.builtin "min") := by decide +kernel
theorem bt_sum : bootBuiltins "sum" = some (.builtin "sum") := by decide +kernel
theorem bt_sorted : bootBuiltins "sorted" = some (.builtin "sorted") := by decide +kernel
theorem bt_int : bootBuiltins "int" = some (.type "int") := by decide +kernel
theorem bt_bool : bootBuiltins "bool" = some (.type "bool") := by decide +kernel
theorem bt_str : bootBuiltins "str" = some (.type "str") := by decide +kernel
theorem bt_tuple : bootBuiltins "tuple" = some (.type "tuple") := by decide +kernel
theorem bt_list : bootBuiltins "list" = some (.type "list") := by decide +kernel
theorem bt_dict : bootBuiltins "dict" = some (.type "dict") := by decide +kernel
theorem bt_set : bootBuiltins "set" = some (.type "set") := by decide +kernel
end
end PD
end

section
/-! PD12: the law's end over deep values. -/
namespace PD
open PySem PySem.Spec PyProof.Rows L2

/-- the law's promise: from the script it answers True -/
def spLaw : SpD := fun ds S Q => ∃ ns : List Int, ds = [.lst (ns.map D.int)] ∧ ns.length ≤ 63 ∧ S.hp = (fun _ => none) ∧ S.c = 0 ∧ S.dk = none ∧ ∀ S', Q (.bl true) S'
def S00 : HD := ⟨fun _ => none, 0, none⟩
theorem rds_ofInts {K : PySem.W.Frag} {G : Addr → Prop} {S : HD} {H : Hp} : ∀ ns : List Int, RDs K G S H (ns.map D.int) (ns.map V.int)
  | [] => .nil
  | n :: ns => .cons (.int n) (rds_ofInts ns)
section
variable {P : Program} {w : World} {K : PySem.W.Frag} {mg mb : Str → Option Value} {k : Nat} {fa a : Addr} {fd : FuncData} {x : Str} {s₁ : Shared} {vs : List Value} {ns : List Int}
/-- the script alone is tracked, or nothing -/
def scr (a : Addr) (vs : List Value) (ns : List Int) : Hp := fun b => if b = a then some (.frz { cls := .type "list", data := .seq vs.toArray } (.lst (ns.map V.int))) else none
def AOnly (a : Addr) (vs : List Value) (ns : List Int) (H : Hp) : Prop := (∀ b, H b = none) ∨ (∀ b, H b = scr a vs ns b)
theorem AOnly.cs {H : Hp} (h : AOnly a vs ns H) (b : Addr) : H b = none ∨ (b = a ∧ H b = some (.frz { cls := .type "list", data := .seq vs.toArray } (.lst (ns.map V.int)))) := by
  rcases h with h | h
  · exact .inl (h b)
  · rw [h b]
    unfold scr
    by_cases e : b = a
    · exact .inr ⟨e, if_pos e⟩
    · exact .inl (if_neg e)
theorem law_callD1 (KX : K.In s₁.heap) (hns : s₁.heap.Ns mainGlobals mg) (hsy : SysB s₁.heap) (hb : s₁.heap.Ns builtinsNs mb) (hbb : ∀ x : Str, x ≠ "__name__" → mb x = bootBuiltins x) (hlim : s₁.heap.NoLimit) (hg : s₁.gens = #[])
    (ha : s₁.heap.get? a = some { cls := .type "list", data := .seq vs.toArray }) (hl : ns.length ≤ 63) (hr : RoomG k callerA)
    (F : ∀ base : Heap, K.In base → base.Ns mainGlobals mg → SysB base → FnD P w K mg base k fa fd [x] spLaw) (hbind : ∀ (s : Shared) (u : Value), BindsTo s fd ⟨[u], []⟩ [(x, u)])
    {H : Hp} (hO : AOnly a vs ns H) (hS : FzL K (fun _ => False) S00 H a (ns.map V.int)) (hok : HOk P w H s₁.heap) (hK : H a ≠ none → K.lookup a = none) :
    codeAny (model P w) callerA (.call (.ref fa) ⟨[.ref a], []⟩) (fun r s' => r = .ok (.ret (.bool true)) ∧ OldK s₁.heap s'.heap ∧ s'.os = s₁.os ∧ AllBare s'.gens) s₁ := by
  have nd : ∀ {b : Addr} {o : Obj} {es : Array DictEntry} {ep : Nat}, s₁.heap.get? b = some o → o.data = .dict es ep → H b = none := fun {b o es ep} e d => by
    rcases hO.cs b with z | ⟨z, _⟩
    · exact z
    · subst z
      rw [ha] at e
      cases e
      exact nomatch (show Data.seq vs.toArray _ = Data.dict es ep from d)
  have ns' : ∀ {b : Addr} {m : Str → Option Value}, s₁.heap.Ns b m → (hidT s₁.heap H).Ns b m := fun {b m} ⟨o, es, ep, e, d, r⟩ => ⟨o, es, ep, hidT_get e (nd e d), d, r⟩
  have kin : K.In (hidT s₁.heap H) := fun b o e => hidT_get (KX b o e) (by
    rcases hO.cs b with z | ⟨z, z'⟩
    · exact z
    · subst z
      rw [hK (by rw [z']; simp)] at e
      cases e)
  have sy : SysB (hidT s₁.heap H) := let ⟨mm, h⟩ := hsy; ⟨mm, ns' h⟩
  have md : Mod K mg (hidT s₁.heap H) := ⟨kin, ns' hns, ⟨mb, ns' hb, hbb⟩, let ⟨mc, h1, h2⟩ := hlim; ⟨mc, ns' h1, h2⟩⟩
  have ev : Env0 P w K mg (hidT s₁.heap H) callerA [] s₁ H := ⟨rfl, md, fun b o e => of_hidT e, Nat.le_of_eq (hidT_size _ _), trivial, fun b hb => (nomatch (show b ∈ ([] : List Addr) from hb)), hok, .of_eq hg⟩
  have run := (F _ kin (ns' hns) sy).run callerA [] s₁ H ⟨[.ref a], []⟩ [.ref a] [.ref a] [.lst (ns.map D.int)] (fun _ => False) S00 (fun d _ => d = .bl true) hr ev (hbind s₁ (.ref a)) (.cons rfl .nil)
    (.cons (.lst hS (rds_ofInts ns)) .nil) ⟨fun _ _ e => (nomatch (show (none : Option OD) = some _ from e)), fun b (g : False) => False.elim g, fun _ _ e => (nomatch (show (none : Option (Addr × Addr)) = some _ from e))⟩ ⟨ns, rfl, hl, rfl, rfl, rfl, fun _ => rfl⟩
  refine codeAny_mono run fun r s' h => ?_
  match r, h with
  | .error e, h => exact False.elim h
  | .ok .next, h => exact False.elim h
  | .ok .brk, h => exact False.elim h
  | .ok .cont, h => exact False.elim h
  | .ok (.ret u), h =>
    obtain ⟨v, H', os, bare, un, hok', r', S', d, _, _, rd, rfl⟩ := h
    cases rd
    obtain rfl : u = Value.bool true := r'
    refine ⟨rfl, OldK.of_keep fun b o e => ?_, os, bare⟩
    rcases hO.cs b with z | ⟨_, z⟩
    · exact un.keep b o e z (fun q => nomatch (show b ∈ ([] : List Addr) from q)) (by simp)
    · obtain ⟨e1, _⟩ := hok b _ z
      obtain ⟨e2, _⟩ := hok' b _ (un.frzs b _ _ z)
      exact e2.trans (e1.symm.trans e)
theorem law_callD (KX : K.In s₁.heap) (hns : s₁.heap.Ns mainGlobals mg) (hsy : SysB s₁.heap) (hb : s₁.heap.Ns builtinsNs mb) (hbb : ∀ x : Str, x ≠ "__name__" → mb x = bootBuiltins x) (hlim : s₁.heap.NoLimit) (hg : s₁.gens = #[])
    (ha : s₁.heap.get? a = some { cls := .type "list", data := .seq vs.toArray }) (hi : IntsAre vs ns) (hl : ns.length ≤ 63) (hr : RoomG k callerA)
    (F : ∀ base : Heap, K.In base → base.Ns mainGlobals mg → SysB base → FnD P w K mg base k fa fd [x] spLaw) (hbind : ∀ (s : Shared) (u : Value), BindsTo s fd ⟨[u], []⟩ [(x, u)]) :
    codeAny (model P w) callerA (.call (.ref fa) ⟨[.ref a], []⟩) (fun r s' => r = .ok (.ret (.bool true)) ∧ OldK s₁.heap s'.heap ∧ s'.os = s₁.os ∧ AllBare s'.gens) s₁ := by
  have rv := vals_ints hi
  have hz : ns.length ≤ sizeLine := Nat.le_trans hl (by decide)
  have hvz : vs.toArray.size ≤ sizeLine := by rw [List.size_toArray, hi.length]; exact hz
  have nofz : Fz (fun _ => False) S00 a := ⟨rfl, fun z => let ⟨_, e, _⟩ := z; (nomatch (show (none : Option (Addr × Addr)) = some _ from e)), id⟩
  cases hk : K.lookup a with
  | some o =>
    have e := KX a o hk
    rw [ha] at e
    cases e
    exact law_callD1 KX hns hsy hb hbb hlim hg ha hl hr F hbind (H := fun _ => none) (.inl fun _ => rfl) (.inr ⟨_, vs.toArray, _, hk, rfl, rfl, rfl, hvz, by simpa using rv⟩) (fun b u z => nomatch (show (none : Option HO) = some u from z)) fun z => absurd rfl z
  | none =>
    refine law_callD1 KX hns hsy hb hbb hlim hg ha hl hr F hbind (H := scr a vs ns) (.inr fun _ => rfl) (.inl ⟨nofz, .inr ⟨_, if_pos rfl⟩⟩) (fun b u z => ?_) fun _ => hk
    by_cases hb' : b = a
    · cases (if_pos hb').symm.trans z
      subst hb'
      exact ⟨ha, by rw [List.length_map]; exact hz, vs, _, rv, ha⟩
    · exact nomatch (if_neg hb').symm.trans z
end
/-- what the head leaves -/
theorem walk_D {l : PySem.W.OpenLaw} {k : Nat} {q : Program} {loose : List Str} {XP : (Str → Option Value) → Heap → Prop} {YP : World → Heap → Prop} {d : DefRec} {K : Params → PySem.W.Frag} {x : Str}
    (hn : l.most = some 63) (hdf : d.params.defaults = []) (hr : RoomG k callerA) (hi : importsNone q = true) (hY : ∀ (w : World) (h : Heap), YP w h → (K w.params).In h)
    (F : ∀ (w : World) (mg : Str → Option Value) (fa : Addr) (h : Heap), (K w.params).In h → h.Ns mainGlobals mg → mg d.name = some (.ref fa) →
      ∃ fd : FuncData, (∀ (s : Shared) (u : Value), BindsTo s fd ⟨[u], []⟩ [(x, u)]) ∧ ∀ base : Heap, (K w.params).In base → base.Ns mainGlobals mg → SysB base → FnD l.prog w (K w.params) mg base k fa fd [x] spLaw) :
    PySem.W.WalkO q loose XP YP l.row.toRowW d [] (fun f vs => PySem.call f vs) :=
  Att.attach_call hn hdf fun w s₀ s₁ mg mb fa o pm cd doc a vs ns G Y ho hd hcd hmg hobj hints hlen hg =>
    let KX := hY w _ Y
    let ⟨_, hb, hF⟩ := F w mg fa _ KX G.T.g hmg
    law_callD KX G.T.g (let ⟨mm, h, _⟩ := (G.T.seer hi).mods; ⟨mm, h⟩) G.T.b G.T.builtins G.T.nolimit hg hobj hints hlen hr hF hb
end PD
end

section
/-! PD13: a tuple read from behind. -/
namespace PD
open PySem PySem.Spec PyProof.Rows L2

theorem adj_rev (n : Nat) : Builtin.Slice.sliceAdjust none none (-1) (n : Int) = ((n : Int) - 1, -1) := by
  unfold Builtin.Slice.sliceAdjust
  first
  | rfl
  | simp
theorem places_rev (n : Nat) : Builtin.Slice.slicePlaces ((n : Int) - 1) (-1) (-1) = n := by
  unfold Builtin.Slice.slicePlaces
  by_cases h : n = 0
  · subst h; decide
  · simp only [show ¬ ((-1 : Int) > 0) by decide, if_false]
    split <;> simp <;> omega
theorem pick_rev (xs : Array Value) : ((List.range xs.size).filterMap fun (m : Nat) => xs[(((xs.size : Int) - 1) + (m : Int) * (-1)).toNat]?).toArray = xs.toList.reverse.toArray := by
  congr 1
  have e : (List.range xs.size).filterMap (fun (m : Nat) => xs[(((xs.size : Int) - 1) + (m : Int) * (-1)).toNat]?) = ((List.range xs.size).map fun k => xs.size - 1 - k).filterMap (xs[·]?) := by
    rw [List.filterMap_map]
    have key : ∀ ks : List Nat, (∀ k ∈ ks, k < xs.size) → ks.filterMap (fun (m : Nat) => xs[(((xs.size : Int) - 1) + (m : Int) * (-1)).toNat]?) = ks.filterMap ((xs[·]?) ∘ fun k => xs.size - 1 - k) := by
      intro ks
      induction ks with
      | nil => intro _; rfl
      | cons k ks ih =>
        intro h
        have hk := h k List.mem_cons_self
        have e : (((xs.size : Int) - 1) + (k : Int) * (-1)).toNat = xs.size - 1 - k := by omega
        simp only [List.filterMap_cons, Function.comp, e]
        rw [ih fun j hj => h j (List.mem_cons_of_mem _ hj)]
    exact key _ fun k hk => List.mem_range.mp hk
  rw [e, PySem.W.krv_range, List.filterMap_reverse, PySem.W.krv_all]
section
variable {prog : Program} {w : World} {A : Around} {E : Value → Shared → Prop} {s : Shared}
theorem applied_rev {sl : Addr} {vl vu vs : Value} {n : Nat} {Q : Int × Int × Nat → Shared → Prop} (hs : s.heap.IsSliceOf sl vl vu vs) (pl : IsPart vl none) (pu : IsPart vu none) (ps : IsPart vs (some (-1)))
    (h : Q ((n : Int) - 1, -1, n) s) : wpAny (model prog w) A (Builtin.Slice.sliceApplied (.ref sl) (pure (n : Int))) Q E s := by
  obtain ⟨ob, ho, _, hf⟩ := id hs
  unfold Builtin.Slice.sliceApplied Builtin.Slice.sliceFields
  refine wpAny_bind (wpAny_bind (wpAny_field ho hf (x := vl) rfl (wpAny_bind (wpAny_field ho hf (x := vu) rfl (wpAny_bind (wpAny_field ho hf (x := vs) rfl (wpAny_pure (wpAny_bind (HT.slicePart_ ps ?_)))))))))
  show wpAny _ _ (if ((-1 : Int) == 0) = true then _ else _) _ _ s
  rw [if_neg (by decide)]
  refine wpAny_bind (HT.slicePart_ pl (wpAny_bind (HT.slicePart_ pu (wpAny_bind (wpAny_pure ?_)))))
  show wpAny _ _ (match Builtin.Slice.sliceAdjust none none (-1) (n : Int) with | (lo, hi) => pure (lo, (-1 : Int), Builtin.Slice.slicePlaces lo hi (-1))) _ _ s
  rw [adj_rev]
  show wpAny _ _ (pure ((n : Int) - 1, (-1 : Int), Builtin.Slice.slicePlaces ((n : Int) - 1) (-1) (-1))) _ _ s
  rw [places_rev]
  exact wpAny_pure h
theorem getRevT {t sl : Addr} {items : Array Value} {vl vu vs : Value} {Q : Value → Shared → Prop} (ht : IsTup s.heap t items) (hs : s.heap.IsSliceOf sl vl vu vs) (pl : IsPart vl none) (pu : IsPart vu none) (ps : IsPart vs (some (-1)))
    (h : Q (.ref s.heap.objs.size) { s with heap := s.heap.push { cls := .type "tuple", data := .seq items.toList.reverse.toArray } }) (hsz : items.size ≤ sizeLine) : wpAny (model prog w) A (getItem (.ref t) (.ref sl)) Q E s := by
  have hz : sizeOk (.seq items.toList.reverse.toArray) := by
    show items.toList.reverse.toArray.size ≤ sizeLine
    simpa using hsz
  obtain ⟨ob, ho, hc, hf⟩ := id hs
  unfold getItem
  try with_reducible refine wpAny_holding ?_
  first | refine wpAny_bind (wpAny_pure ?_) | skip
  refine wpAny_bind (wpAny_sequenceKey ht.typeIs (by decide) (wpAny_bind (wpAny_callSpecial?_slot (name := Str.ofString "__getitem__") ht.typeIs PyProof.Rows.slot_tuple_getitem (wpAny_call_entry PyProof.Rows.slot_tuple_getitem ht.typeIs PyProof.Rows.entry_tuple_getitem ?_ (PyProof.Rows.args_tuple_getitem _ _)))))
  show wpAny _ _ (Builtin.Tuple.tupleItemsOf (.ref t) >>= _) _ _ s
  refine wpAny_bind (tupleItemsOf_ ht (wpAny_bind (wpAny_typeOf ⟨ob, ho, hc⟩ ?_)))
  rw [if_pos (by decide)]
  refine wpAny_bind (applied_rev hs pl pu ps ?_)
  have no : ¬ ((((items.size : Int) - 1 == 0) && ((-1 : Int) == 1) && (items.size == items.size)) = true) := by simp
  show wpAny _ _ (if (((items.size : Int) - 1 == 0) && ((-1 : Int) == 1) && (items.size == items.size)) = true then _ else _) _ _ s
  rw [if_neg no, pick_rev]
  first
    | exact wpAny_bind (m := Builtin.Tuple.tupleExact _) (wpAny_newObj_type (wpAny_pure ⟨_, rfl, wpAny_pure h⟩) hz)
    | exact wpAny_bind (m := Builtin.Tuple.tupleExact _) (wpAny_newObj_type (wpAny_bind (wpAny_pure (wpAny_pure ⟨_, rfl, wpAny_pure h⟩))) hz)
    | exact wpAny_bind (wpAny_bind (m := Builtin.Tuple.tupleExact _) (wpAny_newObj_type (wpAny_pure (wpAny_pure ⟨_, rfl, wpAny_pure h⟩)) hz))
    | exact wpAny_bind (wpAny_bind (m := Builtin.Tuple.tupleExact _) (wpAny_newObj_type (wpAny_pure ⟨_, rfl, wpAny_pure h⟩) hz))
end
section
variable {X : Cx} {e : Expr} {ta : TED}
def tRevT (K : PySem.W.Frag) (te : TE) : TE := fun σ H Q => te σ H fun x H1 => ∃ a xs, x = .ref a ∧ SqT K H1 a xs ∧ ∀ p, H1 p = none → Q (.ref p) (upd H1 p (.tup xs.reverse))
theorem pe_revT {te : TE} {k : Nat} {p1 p2 p3 pos : Pos} (he : PE X e te) : PE X (.Subscript e (.Slice none none (some (.UnaryOp .USub (.Constant (.int 1) k p1) p2)) p3) pos) (tRevT X.K te) := by
  refine ⟨fun pins s σ H Q I h => Subscript_ (thn (he.run pins s σ H _ I h) fun v s1 ⟨x, H1, I1, r1, a, xs, ex, hx, q⟩ => ?_)⟩
  subst ex
  cases r1
  have hst : PO X (some (.UnaryOp .USub (.Constant (.int 1) k p1) p2)) (tPart (tUn (rU fun i => .int (-i)) (tC (.int 1)))) := po_some (pe_un un_neg pe_int)
  refine wpAny_Slice (thn (po_none.run pins s1 σ H1 (fun o G => o = none ∧ G = H1) I1 ⟨rfl, rfl⟩) fun vl s2 ⟨l, H2, I2, pl, el, e2⟩ => ?_)
  subst el e2
  refine thn (po_none.run pins s2 σ H2 (fun o G => o = none ∧ G = H2) I2 ⟨rfl, rfl⟩) fun vu s3 ⟨u, H3, I3, pu, eu, e3⟩ => ?_
  subst eu e3
  refine thn (hst.run pins s3 σ H3 (fun o G => o = some (-1) ∧ G = H3) I3 ⟨1, rfl, -1, rfl, rfl, rfl⟩) fun vs s4 ⟨o, H4, I4, ps, eo, e4⟩ => ?_
  subst eo e4
  have I5 : Inv X pins σ H4 { s4 with heap := s4.heap.push { cls := .type "slice", data := .fields #[vl, vu, vs] } } := I4.kept (t' := s4.toks) fun b ob q => Heap.get?_push_of_some _ q
  obtain ⟨its, r, ht, hz⟩ := I5.tuple hx
  have hlen := r.length
  show wpAny (model X.prog X.w) X.A (subscriptTail e (.Slice none none (some (.UnaryOp .USub (.Constant (.int 1) k p1) p2)) p3) (.ref a) (.ref s4.heap.objs.size)) (EP X pins σ Q) X.xe { s4 with heap := s4.heap.push { cls := .type "slice", data := .fields #[vl, vu, vs] } }
  refine tail_any (ops := [.ref a, .ref s4.heap.objs.size]) ht.typeIs PyProof.Rows.slot_tuple_getitem.lookup ?_ (by with_unfolding_all rfl)
  refine getRevT ht (Heap.IsSliceOf.new _ vl vu vs) pl pu ps ?_ (by rw [List.size_toArray]; omega)
  exact ⟨.ref _, _, I5.laid (t' := s4.toks) (o := .tup xs.reverse) (fun b ob q => Heap.get?_push_of_some _ q) (Nat.le_refl _) ⟨by rw [List.length_reverse]; exact hz, _, r.reverse, IsTup.new _ _⟩, rfl, q _ (I5.hok.fresh (Nat.le_refl _))⟩
/-- t[::-1] -/
def tRevTD (te : TED) : TED := fun σ S Q => te σ S fun d S1 => match d with
  | .tup xs => Q (.tup xs.reverse) S1
  | _ => False
theorem de_revT {k : Nat} {p1 p2 p3 pos : Pos} (he : DE X e ta) : DE X (.Subscript e (.Slice none none (some (.UnaryOp .USub (.Constant (.int 1) k p1) p2)) p3) pos) (tRevTD ta) :=
  (pe_revT he).imp fun σ H Q ⟨G, σd, S, Qd, rs, rh, t, p⟩ => ⟨G, σd, S, _, rs, rh, t, fun S1 d v H1 f1 rh1 q1 t1 => by
    cases q1 with
    | @tup a vs ds h r => exact ⟨a, vs, rfl, h.sq, fun q hq => (p.fl f1).newT rh1 r.rev t1 hq⟩
    | _ => exact t1.elim⟩
end
end PD
end

section
/-! PD14: tracked sums and products of lists; a def by the written part. -/
namespace PD
open PySem PySem.Spec PyProof.Rows L2
section
variable {X : Cx} {a b : Expr} {ta tb : TED} {pos : Pos}
/-- xs + ys, tracked -/
def rAddR : R2D := fun x y S Q => match asLst S x, asLst S y with
  | some xs, some ys => xs.length + ys.length ≤ sizeLine ∧ ∀ p, S.hp p = none → Q (.ref p) (S.set p (.lst (xs ++ ys)))
  | _, _ => False
theorem de_addR (ha : DE X a ta) (hb : DE X b tb) : DE X (.BinOp a .Add b pos) (tBin rAddR ta tb) := de_op op_catK (fun G S H d1 d2 v1 v2 Qd Q rh q1 q2 t p => by
  unfold rAddR at t
  split at t
  · rename_i xs ys e1 e2
    obtain ⟨a, vs, rfl, l1, r1⟩ := asLst_ok rh e1 q1
    obtain ⟨b, ws, rfl, l2, r2⟩ := asLst_ok rh e2 q2
    exact ⟨a, b, vs, ws, rfl, rfl, l1, l2, by rw [← r1.length, ← r2.length]; exact t.1, fun q hq => p.newR rh (r1.append r2) t.2 hq⟩
  · exact t.elim) ha hb
/-- xs * n, tracked -/
def rMulR : R2D := fun x y S Q => match asLst S x, y with
  | some xs, .int k => (0 ≤ k ∧ k < 2 ^ 60 ∧ xs.length * k.toNat ≤ sizeLine) ∧ ∀ p, S.hp p = none → Q (.ref p) (S.set p (.lst (List.replicate k.toNat xs).flatten))
  | _, _ => False
theorem de_mulR (ha : DE X a ta) (hb : DE X b tb) : DE X (.BinOp a .Mult b pos) (tBin rMulR ta tb) := de_op op_repK (fun G S H d1 d2 v1 v2 Qd Q rh q1 q2 t p => by
  unfold rMulR at t
  split at t
  · rename_i xs k e1
    obtain ⟨a, vs, rfl, l1, r1⟩ := asLst_ok rh e1 q1
    cases q2
    exact ⟨a, _, vs, rfl, rfl, l1, t.1.1, t.1.2.1, by rw [← r1.length]; exact t.1.2.2, fun q hq => p.newR rh (r1.flat _) t.2 hq⟩
  · exact t.elim) ha hb
end
/-- a def of the module, in the written part -/
structure DefOf (K : PySem.W.Frag) (mg : Str → Option Value) (x : Str) (st : Stmt) : Prop where
  ex : ∃ f fd, Fun K x x st f fd ∧ mg x = some (.ref f)
theorem defOf_mk {x : Str} {K : PySem.W.Frag} {h : Heap} {mg : Str → Option Value} (X : K.In h) (G : h.Ns mainGlobals mg) {st : Stmt} {f : Addr} {od an : Option Addr} {sl : Array (Option Value)} {oc kV dc pm cd ct : Value}
    (a : PySem.W.nsIn K mainGlobals x = some (some (.ref f))) (l : K.lookup f = some ⟨oc, od, .func (PySem.W.fnOf x x (defArgs st) (defBody st) (defScope st) .none kV dc pm an cd ct), sl⟩) (c : PySem.W.codeIn K cd x = true) (k : PySem.W.keepIn K (.ref f) = true) : DefOf K mg x st := ⟨⟨f, _, fun_mk (st := st) l c k, PySem.W.mg_of X G a⟩⟩
end PD
end

section
/-! PD15: readings by values: a set of rules for simp, loops by invariants, the helpers that draw. -/
namespace PD
open PySem PySem.Spec PyProof.Rows L2
section
variable {S : HD}
theorem nrm_non : nrm S .non = .non := rfl
theorem nrm_bl {b : Bool} : nrm S (.bl b) = .bl b := rfl
theorem nrm_int {b : Int} : nrm S (.int b) = .int b := rfl
theorem nrm_str {b : Str} : nrm S (.str b) = .str b := rfl
theorem nrm_tup {b : List D} : nrm S (.tup b) = .tup b := rfl
theorem nrm_lst {b : List D} : nrm S (.lst b) = .lst b := rfl
theorem nrm_dic {b : List (D × D)} : nrm S (.dic b) = .dic b := rfl
theorem nrm_ref {a : Addr} : nrm S (.ref a) = match S.hp a with
    | some (.lst xs) => .lst xs
    | _ => .ref a := rfl
end
theorem gt_z {x : Option D} {r : SD} : gt (x :: r) 0 = x := rfl
theorem gt_s {x : Option D} {r : SD} {n : Nat} : gt (x :: r) (n + 1) = gt r n := rfl
theorem st_z {x : Option D} {r : SD} {d : D} : st (x :: r) 0 d = some d :: r := rfl
theorem st_s {x : Option D} {r : SD} {n : Nat} {d : D} : st (x :: r) (n + 1) d = x :: st r n d := rfl
/-! ### comprehensions, loops by invariants -/
/-- the state stays: what the items give -/
theorem lcD_pure {g : TGD} {tt : TTD} {te : TED} {σ : SD} {keep : HD → Prop} {Q : List D → HD → Prop} (f : D → Option D) {S : HD} (hk : keep S) : ∀ (xs acc : List D),
    (∀ d ∈ xs, ∀ (Q1 : D → HD → Prop) (Q0 : HD → Prop), (match f d with | some y => Q1 y S | none => Q0 S) → g d σ S fun σ2 S2 => tt σ2 S2 fun b S3 => if b = true then te σ2 S3 Q1 else Q0 S3) →
    Q (acc ++ xs.filterMap f) S → lcD g tt te σ keep Q xs acc S
  | [], acc, _, q => ⟨hk, by simpa using q⟩
  | d :: r, acc, h, q => ⟨hk, h d List.mem_cons_self _ _ (by
      cases e : f d with
      | none => exact lcD_pure f hk r acc (fun d hd => h d (List.mem_cons_of_mem _ hd)) (by simpa [List.filterMap_cons, e] using q)
      | some y => exact lcD_pure f hk r (acc ++ [y]) (fun d hd => h d (List.mem_cons_of_mem _ hd)) (by simpa [List.filterMap_cons, e] using q))⟩
/-- by an invariant of what is made and the state -/
theorem lcD_inv {g : TGD} {tt : TTD} {te : TED} {σ : SD} {keep : HD → Prop} {Q : List D → HD → Prop} (I : Nat → List D → HD → Prop) {all : List D}
    (step : ∀ (i : Nat) (d : D) (acc : List D) (S : HD) (N : List D → HD → Prop), all[i]? = some d → I i acc S → (∀ acc S, I (i + 1) acc S → N acc S) → keep S ∧ g d σ S fun σ2 S2 => tt σ2 S2 fun b S3 => if b = true then te σ2 S3 (fun y S4 => N (acc ++ [y]) S4) else N acc S3)
    (stop : ∀ acc S, I all.length acc S → keep S ∧ Q acc S) : ∀ (xs : List D) (i : Nat) (acc : List D) (S : HD), xs = all.drop i → i ≤ all.length → I i acc S → lcD g tt te σ keep Q xs acc S
  | [], i, acc, S, e, hi, h => by
    have : i = all.length := by have := congrArg List.length e; simp at this; omega
    subst this
    exact stop acc S h
  | d :: r, i, acc, S, e, hi, h => by
    have hl : i < all.length := by
      apply Nat.lt_of_not_le
      intro q
      rw [List.drop_of_length_le q] at e
      cases e
    rw [List.drop_eq_getElem_cons hl] at e
    injection e with e1 e2
    exact step i d acc S (fun acc S => lcD g tt te σ keep Q r acc S) (by simp [hl, e1]) h fun acc S h => lcD_inv I step stop r (i + 1) acc S e2 hl h
theorem lcD_go {g : TGD} {tt : TTD} {te : TED} {σ : SD} {keep : HD → Prop} {Q : List D → HD → Prop} (I : Nat → List D → HD → Prop) {xs : List D} {S : HD} (h0 : I 0 [] S)
    (step : ∀ (i : Nat) (d : D) (acc : List D) (S : HD) (N : List D → HD → Prop), xs[i]? = some d → I i acc S → (∀ acc S, I (i + 1) acc S → N acc S) → keep S ∧ g d σ S fun σ2 S2 => tt σ2 S2 fun b S3 => if b = true then te σ2 S3 (fun y S4 => N (acc ++ [y]) S4) else N acc S3)
    (stop : ∀ acc S, I xs.length acc S → keep S ∧ Q acc S) : lcD g tt te σ keep Q xs [] S := lcD_inv I step stop xs 0 [] S rfl (Nat.zero_le _) h0
theorem loopD_inv {g : TGD} {tb : TSD} {E : EndsD} {keep : HD → Prop} (I : Nat → SD → HD → Prop) {all : List D}
    (step : ∀ (i : Nat) (d : D) (σ : SD) (S : HD) (N : SD → HD → Prop), all[i]? = some d → I i σ S → (∀ σ S, I (i + 1) σ S → N σ S) → keep S ∧ g d σ S fun σ2 S2 => tb { nx := N, ct := N, bk := E.nx, rt := E.rt } σ2 S2)
    (stop : ∀ σ S, I all.length σ S → keep S ∧ E.nx σ S) : ∀ (xs : List D) (i : Nat) (σ : SD) (S : HD), xs = all.drop i → i ≤ all.length → I i σ S → loopD g tb E keep xs σ S
  | [], i, σ, S, e, hi, h => by
    have : i = all.length := by have := congrArg List.length e; simp at this; omega
    subst this
    exact stop σ S h
  | d :: r, i, σ, S, e, hi, h => by
    have hl : i < all.length := by
      apply Nat.lt_of_not_le
      intro q
      rw [List.drop_of_length_le q] at e
      cases e
    rw [List.drop_eq_getElem_cons hl] at e
    injection e with e1 e2
    exact step i d σ S (loopD g tb E keep r) (by simp [hl, e1]) h fun σ S h => loopD_inv I step stop r (i + 1) σ S e2 hl h
theorem loopD_go {g : TGD} {tb : TSD} {E : EndsD} {keep : HD → Prop} (I : Nat → SD → HD → Prop) {xs : List D} {σ : SD} {S : HD} (h0 : I 0 σ S)
    (step : ∀ (i : Nat) (d : D) (σ : SD) (S : HD) (N : SD → HD → Prop), xs[i]? = some d → I i σ S → (∀ σ S, I (i + 1) σ S → N σ S) → keep S ∧ g d σ S fun σ2 S2 => tb { nx := N, ct := N, bk := E.nx, rt := E.rt } σ2 S2)
    (stop : ∀ σ S, I xs.length σ S → keep S ∧ E.nx σ S) : loopD g tb E keep xs σ S := loopD_inv I step stop xs 0 σ S rfl (Nat.zero_le _) h0
theorem rngD_get {lo : Int} {n i : Nat} {d : D} (h : (rngD lo n)[i]? = some d) : i < n ∧ d = .int (lo + i) := by
  unfold rngD at h
  rw [List.getElem?_map] at h
  by_cases hi : i < n
  · rw [List.getElem?_range hi] at h
    cases h
    exact ⟨hi, rfl⟩
  · rw [List.getElem?_eq_none (by simpa using hi)] at h
    cases h
theorem fin.here {Q : QD} {d : D} {S : HD} (q : Q d S) : fin Q d S := .le (.refl _) q
/-! ### one of the items -/
def spOne : SpD := fun ds S Q => ∃ x xs, ds = [.deck, x] ∧ asSeq S x = some xs ∧ xs ≠ [] ∧ xs.length ≤ 500000000 ∧ S.c < 1000000000000 ∧ ∀ d ∈ xs, Q d (S.tick 1)
theorem asSeq_tick {S : HD} {n : Nat} {x : D} : asSeq (S.tick n) x = asSeq S x := by cases x <;> rfl
theorem atI_nat {α : Type} {xs : List α} {r : Int} (h0 : 0 ≤ r) (h1 : r < xs.length) : ∃ d, atI xs r = some d ∧ d ∈ xs := by
  have h2 : r.toNat < xs.length := by omega
  refine ⟨xs[r.toNat], ?_, List.getElem_mem h2⟩
  unfold atI ixN
  rw [if_pos h0, if_pos h1]
  simp [h2]
end PD
end

section
/-! PD16: the helpers that draw. -/
local macro_rules | `(tactic| walk_at "rdx") => `(tactic| simp only [PD.pad, PD.gt_z, PD.gt_s, PD.st_z, PD.st_s, PD.sNextD, PD.sSeqD, PD.sBreakD, PD.sContD, PD.sDropD, PD.sRetD, PD.sRetND, PD.sIfD, PD.sNeverD, PD.sAsgD, PD.sPar2, PD.sPar3, PD.gNameD, PD.gNilD, PD.gConsD, PD.gTupD, PD.gSubD, PD.tNilD, PD.tConsD, PD.tTupD, PD.tLstV, PD.tLstR, PD.tBin, PD.tTst, PD.tAndD, PD.tOrD, PD.tNotD, PD.tIfD, PD.tAndV, PD.tOrV, PD.tNotV, PD.tUnD, PD.rNeg, PD.tCallD, PD.tSlot, PD.tCD, PD.tChainD, PD.rIsN, PD.rNotN, PD.isN, PD.rIsiD, PD.isiB, PD.Ty.name, PD.rCmpI, PD.fLt, PD.fLe, PD.fGt, PD.fGe, PD.rAddD, PD.rSubD, PD.rFdivD, PD.rModD, PD.rPowD, PD.rMulD, PD.rAddR, PD.rMulR, PD.asSeq, PD.asLst, PD.rLenD, PD.rTupleD, PD.rListV, PD.rListR, PD.rIntD, PD.rBoolD, PD.rAbsD, PD.rIxD, PD.oNone, PD.oSome, PD.tSlD, PD.rSlD, PD.tRevTD, PD.rEqD, PD.rNeD, PD.nrm, PD.iSeqD, PD.iRng1D, PD.iRng2D, PD.sForD, PD.tLcV, PD.tLcR, PD.tYesD, PD.wipeD, PD.tMethL, PD.rAppD, PD.isRefL, PD.tDicV, PD.rSetD, PD.rReprD, reduceIte, true_and, and_true, Bool.not_true, Bool.not_false, Bool.false_eq_true, List.length_cons, List.length_nil, List.set_cons_zero, List.set_cons_succ, PD.HD.set_same, PD.HD.tick_hp, PD.HD.tick_c, PD.HD.tick_dk, PD.HD.set_c, PD.HD.set_dk])
namespace PD
open PySem PySem.Spec PyProof.Rows
def rdDeck : TSD :=
  sRetD (tLstR (tConsD (tLcR (iSeqD (tSlD (tSlot 0) (oNone) (oSome (tCD (.int 63))))) (gNameD 1) (tYesD) (tCallD rAbsD (tConsD (tSlot 1) (tNilD))) [1]) (tConsD (tCD (.int 0)) (tNilD))))
def rdDraw : TSD :=
  sSeqD (sAsgD (tBin rAddD (tBin rIxD (tSlot 0) (tCD (.int 1))) (tCD (.int 1))) (gSubD (tSlot 0) (tCD (.int 1))))
  (sSeqD (sAsgD (tTupD (tConsD (tCD (.int 0)) (tConsD (tUnD rNeg (tCD (.int 1))) (tNilD)))) (gTupD 2 (gConsD (gNameD 2) (gConsD (gNameD 3) (gNilD)))))
  (sSeqD (sIfD (tTst (tBin (rCmpI fGt) (tCallD rLenD (tConsD (tBin rIxD (tSlot 0) (tCD (.int 0))) (tNilD))) (tCD (.int 0)))) (sSeqD (sAsgD (tBin rModD (tCallD rIntD (tConsD (tBin rIxD (tSlot 0) (tCD (.int 1))) (tNilD))) (tCallD rLenD (tConsD (tBin rIxD (tSlot 0) (tCD (.int 0))) (tNilD)))) (gNameD 3))
  (sAsgD (tBin rIxD (tBin rIxD (tSlot 0) (tCD (.int 0))) (tSlot 3)) (gNameD 2))) (sNextD))
  (sSeqD (sIfD (tTst (tBin (rCmpI fGe) (tSlot 2) (tBin rPowD (tCD (.int 10)) (tCD (.int 18))))) (sSeqD (sAsgD (tBin rFdivD (tCallD rIntD (tConsD (tSlot 2) (tNilD))) (tSlot 1)) (gSubD (tBin rIxD (tSlot 0) (tCD (.int 0))) (tSlot 3)))
  (sRetD (tBin rModD (tCallD rIntD (tConsD (tSlot 2) (tNilD))) (tSlot 1)))) (sNextD))
  (sSeqD (sAsgD (tBin rAddD (tBin rAddD (tBin rModD (tCallD rIntD (tConsD (tSlot 2) (tNilD))) (tCD (.int 2147483563))) (tBin rMulD (tCD (.int 8117)) (tBin rIxD (tSlot 0) (tCD (.int 1))))) (tCD (.int 3))) (gNameD 4))
  (sRetD (tBin rModD (tCallD rIntD (tConsD (tBin rModD (tCallD rIntD (tConsD (tBin rPowD (tSlot 4) (tCD (.int 5))) (tNilD))) (tCD (.int 2147483629))) (tNilD))) (tSlot 1)))))))
def rdOne (sp : SpD) : TSD :=
  sRetD (tBin rIxD (tSlot 1) (tCallD sp (tConsD (tSlot 0) (tConsD (tCallD rLenD (tConsD (tSlot 1) (tNilD))) (tNilD)))))
theorem atI20 {x y : D} : L2.atI [x, y] 0 = some x := rfl
theorem atI21 {x y : D} : L2.atI [x, y] 1 = some y := rfl
theorem ixN21 : L2.ixN (0 + 1 + 1) 1 = some 1 := rfl
/-- the end of a draw: a number, the deck as it was but for one cell -/
def drawn (a b : Addr) (k : Nat) (m : Int) : QD := fun d S1 => ∃ (r : Int) (cells' : List Int), d = .int r ∧ 0 ≤ r ∧ r < m ∧ S1.hp a = some (.lst [.ref b, .int ((k + 1 : Nat) : Int)]) ∧ S1.hp b = some (.lst (cells'.map D.int)) ∧ cells'.length ≤ 63 ∧ ∀ z ∈ cells', 0 ≤ z
/-- behind the choice of the cell -/
def rdTail : TSD :=
  (sSeqD (sIfD (tTst (tBin (rCmpI fGe) (tSlot 2) (tBin rPowD (tCD (.int 10)) (tCD (.int 18))))) (sSeqD (sAsgD (tBin rFdivD (tCallD rIntD (tConsD (tSlot 2) (tNilD))) (tSlot 1)) (gSubD (tBin rIxD (tSlot 0) (tCD (.int 0))) (tSlot 3)))
  (sRetD (tBin rModD (tCallD rIntD (tConsD (tSlot 2) (tNilD))) (tSlot 1)))) (sNextD))
  (sSeqD (sAsgD (tBin rAddD (tBin rAddD (tBin rModD (tCallD rIntD (tConsD (tSlot 2) (tNilD))) (tCD (.int 2147483563))) (tBin rMulD (tCD (.int 8117)) (tBin rIxD (tSlot 0) (tCD (.int 1))))) (tCD (.int 3))) (gNameD 4))
  (sRetD (tBin rModD (tCallD rIntD (tConsD (tBin rModD (tCallD rIntD (tConsD (tBin rPowD (tSlot 4) (tCD (.int 5))) (tNilD))) (tCD (.int 2147483629))) (tNilD))) (tSlot 1)))))
theorem tail_ok {S : HD} {a b : Addr} {cells : List Int} {k : Nat} {m c at_ : Int} (hab : a ≠ b) (hk : k < 1000000000000) (hl : cells.length ≤ 63) (h0 : ∀ z ∈ cells, 0 ≤ z) (h1 : 1 ≤ m) (h2 : m ≤ 500000000) (hc0 : 0 ≤ c)
    (ha : S.hp a = some (.lst [.ref b, .int ((k + 1 : Nat) : Int)])) (hb : S.hp b = some (.lst (cells.map D.int))) (hat : c = 0 ∨ (0 ≤ at_ ∧ at_ < cells.length)) {bk ct nx : SD → HD → Prop} :
    rdTail { nx := nx, rt := drawn a b k m, bk := bk, ct := ct } [some (.ref a), some (.int m), some (.int c), some (.int at_), none] S := by
  unfold rdTail
  have hba : b ≠ a := fun e => hab e.symm
  walk_at "rdx"
  refine ⟨⟨by decide, by decide, by decide⟩, ?_⟩
  by_cases hc : (10 : Int) ^ (18 : Int).toNat ≤ c
  · have hc' : (1000000000000000000 : Int) ≤ c := hc
    rcases hat with e | ⟨h3, h4⟩
    · omega
    have hix : L2.ixN cells.length at_ = some at_.toNat := by unfold L2.ixN; rw [if_pos h3, if_pos h4]
    simp only [hc, decide_true, if_true]
    refine ⟨⟨by omega, by omega⟩, ?_⟩
    simp only [ha, hb, atI20, List.length_map, hix]
    refine ⟨by omega, c % m, cells.set at_.toNat (c / m), rfl, Int.emod_nonneg _ (by omega), Int.emod_lt_of_pos _ (by omega), ?_, ?_, ?_, ?_⟩
    · rw [HD.set_ne hab]; exact ha
    · rw [HD.set_same, List.map_set]
    · rw [List.length_set]; exact hl
    · intro z hz
      rcases List.mem_or_eq_of_mem_set hz with h | h
      · exact h0 z h
      · subst h; exact Int.ediv_nonneg (by omega) (by omega)
  · simp only [hc, decide_false, Bool.false_eq_true, if_false]
    simp only [ha, atI21]
    have e1 := Int.emod_nonneg c (b := 2147483563) (by decide)
    have e2 := Int.emod_lt_of_pos c (b := 2147483563) (by decide)
    refine ⟨by decide, ?_, ?_⟩
    · left
      decide
    refine ⟨⟨by decide, by decide, ?_⟩, by decide, by omega, _, cells, rfl, Int.emod_nonneg _ (by omega), Int.emod_lt_of_pos _ (by omega), ha, hb, hl, h0⟩
    omega
theorem drawOk : DrawOk rdDraw 5 := by
  intro S a b cells k m hab hk hl h0 h1 h2
  have hba : b ≠ a := fun e => hab e.symm
  have ha : (openD S a b cells k).hp a = some (.lst [.ref b, .int (k : Int)]) := if_pos rfl
  have hb : (openD S a b cells k).hp b = some (.lst (cells.map D.int)) := (if_neg hba).trans (if_pos rfl)
  show rdDraw { nx := fun _ _ => False, rt := drawn a b k m } (pad 5 [.ref a, .int m]) (openD S a b cells k)
  generalize openD S a b cells k = S0 at ha hb
  unfold rdDraw
  rw [show (sSeqD (sIfD (tTst (tBin (rCmpI fGe) (tSlot 2) (tBin rPowD (tCD (.int 10)) (tCD (.int 18))))) _ _) _) = rdTail from rfl]
  generalize hT : rdTail = T
  walk_at "rdx"
  simp only [ha, atI21]
  walk_at "rdx"
  simp only [ha, ixN21]
  walk_at "rdx"
  have ha' : (S0.set a (.lst [.ref b, .int ((k : Int) + 1)])).hp a = some (.lst [.ref b, .int ((k + 1 : Nat) : Int)]) := HD.set_same
  have hb' : (S0.set a (.lst [.ref b, .int ((k : Int) + 1)])).hp b = some (.lst (cells.map D.int)) := (HD.set_ne hba).trans hb
  generalize (S0.set a (.lst [.ref b, .int ((k : Int) + 1)])) = S1 at ha' hb'
  refine ⟨by decide, ?_⟩
  simp only [atI20, ha', hb', List.length_map]
  cases cells with
  | nil =>
    simp only [List.length_nil, Int.natCast_zero, Int.lt_irrefl, decide_false, Bool.false_eq_true, if_false]
    subst hT
    exact tail_ok hab hk hl h0 h1 h2 (Int.le_refl 0) ha' hb' (.inl rfl)
  | cons z0 zs =>
    have hpos : (0 : Int) < (((z0 :: zs).length : Nat) : Int) := by simp only [List.length_cons]; omega
    simp only [hpos, decide_true, if_true, atI21, true_and]
    walk_at "rdx"
    generalize hr : ((k : Int) + 1) % ((zs.length + 1 : Nat) : Int) = r
    have e1 : 0 ≤ r := by rw [← hr]; exact Int.emod_nonneg _ (by omega)
    have e2 : r < (((z0 :: zs).length : Nat) : Int) := by rw [← hr, List.length_cons]; exact Int.emod_lt_of_pos _ (by omega)
    obtain ⟨z, hz, hm⟩ := atI_nat (xs := z0 :: zs) e1 e2
    have hz' : L2.atI ((z0 :: zs).map D.int) r = some (.int z) := by
      unfold L2.atI at hz ⊢
      rw [List.length_map]
      cases q : L2.ixN (z0 :: zs).length r with
      | none => rw [q] at hz; cases hz
      | some j =>
        rw [q] at hz
        show ((z0 :: zs).map D.int)[j]? = _
        rw [List.getElem?_map]
        rw [show (z0 :: zs)[j]? = some z from hz]
        rfl
    rw [hz']
    subst hT
    exact tail_ok hab hk hl h0 h1 h2 (h0 z hm) ha' hb' (.inr ⟨e1, e2⟩)
theorem rngCut {xs : List Int} : cutD (xs.map D.int) none (some 63) = (xs.take 63).map D.int := by
  unfold cutD
  simp only [List.length_map, HT.sIx_none, List.drop_zero, Nat.sub_zero]
  rw [show ((some 63 : Option Int)) = some ((63 : Nat) : Int) from rfl, HT.sIx_nat, List.map_take]
  by_cases h : xs.length ≤ 63
  · rw [Nat.min_eq_right h, List.take_of_length_le (by simp), List.take_of_length_le (by simpa using h)]
  · rw [Nat.min_eq_left (by omega)]
theorem deckOk : DeckOk rdDeck 2 := by
  intro S ns hd
  unfold rdDeck
  walk_at "rdx"
  rw [rngCut]
  have h63 : (ns.take 63).length ≤ 63 := by rw [List.length_take]; omega
  generalize ns.take 63 = ms at h63
  intro hz
  refine ⟨hz, ?_⟩
  refine lcD_go (fun i acc S' => S' = S ∧ acc = (ms.take i).map fun z => D.int (if z < 0 then -z else z)) ⟨rfl, rfl⟩ (fun i d acc S' N hi ⟨e, ea⟩ k => ?_) fun acc S' ⟨e, ea⟩ => ?_
  · subst e
    rw [List.getElem?_map] at hi
    obtain ⟨z, hz, e2⟩ := Option.map_eq_some_iff.mp hi
    subst e2
    walk_at "rdx"
    refine k _ _ ⟨rfl, ?_⟩
    rw [ea, List.take_add_one, hz]
    simp
  · subst e ea
    refine ⟨trivial, fun b hb => ⟨by decide, fun a ha => ?_⟩⟩
    have hab : a ≠ b := fun e => by
      subst e
      rw [HD.set_same] at ha
      cases ha
    have hba : b ≠ a := fun e => hab e.symm
    rw [HD.set_ne hab] at ha
    refine ⟨a, b, ms.map fun z => if z < 0 then -z else z, rfl, hab, ha, hb, HD.set_same, ?_, ?_, ?_, ?_, hd⟩
    · rw [HD.set_ne hba, HD.set_same, List.take_of_length_le (by simp), List.map_map]
      rfl
    · simpa using h63
    · intro z hz
      obtain ⟨y, _, rfl⟩ := List.mem_map.mp hz
      by_cases h : y < 0
      · rw [if_pos h]; omega
      · rw [if_neg h]; omega
    · intro x o hx
      rw [HD.set_ne (fun e => by rw [e, ha] at hx; cases hx), HD.set_ne (fun e => by rw [e, hb] at hx; cases hx)]
      exact hx
theorem spOne_len (ds : List D) (S : HD) (Q : QD) (h : spOne ds S Q) : ds.length = 2 := by
  obtain ⟨x, xs, rfl, _⟩ := h
  rfl
theorem oneOk {E : EndsD} (ds : List D) (S : HD) (Q : QD) (h : spOne ds S Q) (hE : ∀ d S, Q d S → E.rt d S) : rdOne spDraw E (pad 2 ds) S := by
  obtain ⟨x, xs, rfl, hx, hne, hl, hc, q⟩ := h
  unfold rdOne
  have hpos : 1 ≤ xs.length := by cases xs with
    | nil => exact (hne rfl).elim
    | cons _ _ => simp
  have key : spDraw [.deck, .int xs.length] S fun d S1 => ∀ y, asSeq S1 x = some y → (match d with
    | .int i => (match L2.atI y i with
      | some d => E.rt d S1
      | none => False)
    | _ => False) := by
    refine ⟨⟨by omega, by omega, hc⟩, fun r h0 h1 => fun y hy => ?_⟩
    rw [asSeq_tick, hx] at hy
    cases hy
    obtain ⟨d, e, m⟩ := atI_nat h0 h1
    simp only [e]
    exact hE _ _ (q d m)
  have mono : ∀ (ds : List D) (S : HD) (Q Q' : QD), (∀ d S, Q d S → Q' d S) → spDraw ds S Q → spDraw ds S Q' := by
    intro ds S Q Q' i h
    unfold spDraw at h ⊢
    split at h
    · exact ⟨h.1, fun r h0 h1 => i _ _ (h.2 r h0 h1)⟩
    · exact h.elim
  cases x with
  | tup ys =>
    cases hx
    walk_at "rdx"
    refine mono _ _ _ _ (fun d S1 h => ?_) key
    have h := h _ rfl
    cases d <;> first | exact h | exact h.elim
  | lst ys =>
    cases hx
    walk_at "rdx"
    refine mono _ _ _ _ (fun d S1 h => ?_) key
    have h := h _ rfl
    cases d <;> first | exact h | exact h.elim
  | ref a =>
    have hx' := hx
    simp only [asSeq] at hx'
    split at hx'
    · rename_i ys e
      cases hx'
      walk_at "rdx"
      simp only [e]
      refine ⟨⟨by omega, by omega, hc⟩, fun r h0 h1 => ?_⟩
      obtain ⟨d, e2, m⟩ := atI_nat h0 h1
      simp only [HD.tick_hp, e, e2]
      exact hE _ _ (q d m)
    · cases hx'
  | _ => cases hx
end PD
end

section
/-! PD17: comparisons and classes of plain data. -/
namespace PD
open PySem PySem.Spec PyProof.Rows
theorem eqk_int {i j : Int} : eqk (.int i) (.int j) = true := by simp [eqk]
theorem eqd_int {i j : Int} : eqd (.int i) (.int j) = decide (i = j) := by
  unfold eqd
  simp only [py]
  first
  | rfl
  | (simp [PyData.eqv]; done)
  | (unfold PyData.eqv; simp)
theorem eqk_str {i j : Str} : eqk (.str i) (.str j) = true := by simp [eqk]
theorem eqd_str {i j : Str} : eqd (.str i) (.str j) = decide (i = j) := by
  unfold eqd
  simp only [py]
  first
  | rfl
  | (simp [PyData.eqv]; done)
  | (unfold PyData.eqv; simp)
theorem eqk_lst0 {xs : List D} : eqk (.lst xs) (.lst []) = true := by simp [eqk]
theorem eqd_lst0 {xs : List D} : eqd (.lst xs) (.lst []) = xs.isEmpty := by
  unfold eqd
  simp only [py, pyL]
  unfold PyData.eqv
  simp only [eqv_nilL, eqv_nilR, pyL_isEmpty]
theorem eqk_tup0 {xs : List D} : eqk (.tup xs) (.tup []) = true := by simp [eqk]
theorem eqd_tup0 {xs : List D} : eqd (.tup xs) (.tup []) = xs.isEmpty := by
  unfold eqd
  simp only [py, pyL]
  unfold PyData.eqv
  simp only [eqv_nilL, eqv_nilR, pyL_isEmpty]
theorem okRL_mem {x : D} : ∀ {xs : List D}, okRL xs = true → x ∈ xs → okR x = true
  | [], _, m => by cases m
  | y :: ys, h, m => by
    simp only [okRL, Bool.and_eq_true] at h
    rcases List.mem_cons.mp m with e | e
    · subst e; exact h.1
    · exact okRL_mem h.2 e
theorem okRL_of : ∀ {xs : List D}, (∀ x ∈ xs, okR x = true) → okRL xs = true
  | [], _ => rfl
  | y :: ys, h => by
    simp only [okRL, Bool.and_eq_true]
    exact ⟨h y List.mem_cons_self, okRL_of fun x m => h x (List.mem_cons_of_mem _ m)⟩
theorem depL_le {x : D} : ∀ {xs : List D}, x ∈ xs → dep x ≤ depL xs
  | [], m => by cases m
  | y :: ys, m => by
    simp only [depL]
    rcases List.mem_cons.mp m with e | e
    · subst e; omega
    · have := depL_le e; omega
theorem depL_of {n : Nat} : ∀ {xs : List D}, (∀ x ∈ xs, dep x ≤ n) → depL xs ≤ n
  | [], _ => Nat.zero_le _
  | y :: ys, h => by
    have h1 := h y List.mem_cons_self
    have h2 := depL_of (xs := ys) fun x m => h x (List.mem_cons_of_mem _ m)
    simp only [depL]
    omega
theorem szL_of {n : Nat} : ∀ {xs : List D}, (∀ x ∈ xs, sz x ≤ n) → szL xs ≤ xs.length * (n + 2)
  | [], _ => by simp [szL]
  | y :: ys, h => by
    have h1 := h y List.mem_cons_self
    have h2 := szL_of (xs := ys) fun x m => h x (List.mem_cons_of_mem _ m)
    simp only [szL, List.length_cons, Nat.add_mul, Nat.one_mul]
    omega
theorem szL_mem {x : D} : ∀ {xs : List D}, x ∈ xs → sz x ≤ szL xs
  | [], m => by cases m
  | y :: ys, m => by
    simp only [szL]
    rcases List.mem_cons.mp m with e | e
    · subst e; omega
    · have := szL_mem e; omega
theorem szL_app : ∀ {xs ys : List D}, szL (xs ++ ys) = szL xs + szL ys
  | [], ys => by simp [szL]
  | x :: xs, ys => by simp only [List.cons_append, szL, szL_app (xs := xs)]; omega
theorem empty_filter {α : Type} (p : α → Bool) : ∀ xs : List α, (xs.filterMap fun d => if p d = true then some d else none).isEmpty = xs.all fun d => !p d
  | [] => rfl
  | x :: xs => by
    rw [List.filterMap_cons, List.all_cons, ← empty_filter p xs]
    cases h : p x <;> simp [h]
/-- what a def computes, nothing changed -/
def spFn (f : List D → Option D) : SpD := fun ds S Q => match f ds with
  | some r => Q r S
  | none => False
/-- of a built-in class -/
def isT (t : Ty) (d : D) : Bool := (isiB ⟨fun _ => none, 0, none⟩ t d).getD false
theorem isT_ok {S : HD} {t : Ty} {d : D} (h : okR d = true) : isiB S t d = some (isT t d) := by
  cases d <;> first | rfl | cases h
theorem isT_tup {d : D} (h : isT .tuple d = true) : ∃ xs, d = .tup xs := by
  cases d <;> first | exact ⟨_, rfl⟩ | cases h
section
variable {S : HD} {t : Ty}
theorem isi_non : isiB S t .non = some false := by cases t <;> rfl
theorem isi_bl {b : Bool} : isiB S t (.bl b) = some (match t with | .int => true | .bool => true | _ => false) := rfl
theorem isi_int {b : Int} : isiB S t (.int b) = some (match t with | .int => true | _ => false) := rfl
theorem isi_str {b : Str} : isiB S t (.str b) = some (match t with | .str => true | _ => false) := rfl
theorem isi_tup {b : List D} : isiB S t (.tup b) = some (match t with | .tuple => true | _ => false) := rfl
theorem isi_lst {b : List D} : isiB S t (.lst b) = some (match t with | .list => true | _ => false) := rfl
theorem isi_dic {b : List (D × D)} : isiB S t (.dic b) = some (match t with | .dict => true | _ => false) := rfl
end
/-- a later state of a def's run: what was tracked stands, no more than n draws -/
structure Up (n : Nat) (S S' : HD) : Prop where
  hp : ∀ a o, S.hp a = some o → S'.hp a = some o
  c : S'.c ≤ S.c + n
  dk : S'.dk = S.dk
theorem Up.refl (S : HD) : Up 0 S S := ⟨fun _ _ h => h, Nat.le_refl _, rfl⟩
theorem Up.le {n : Nat} {S S' : HD} (h : Up n S S') : HLe (S.tick n) S' := ⟨h.hp, h.c, h.dk.symm⟩
theorem Up.mono {n m : Nat} {S S' : HD} (h : Up n S S') (l : n ≤ m) : Up m S S' := ⟨h.hp, by have := h.c; omega, h.dk⟩
theorem Up.tick {n k : Nat} {S S' : HD} (h : Up n S S') : Up (n + k) S (S'.tick k) := ⟨h.hp, by have := h.c; simp only [HD.tick_c]; omega, h.dk⟩
theorem Up.set {n : Nat} {S S' : HD} {p : Addr} {o : OD} (h : Up n S S') (hp : S.hp p = none) : Up n S (S'.set p o) :=
  ⟨fun a u e => by rw [HD.set_ne fun z => by rw [z, hp] at e; cases e]; exact h.hp a u e, h.c, h.dk⟩
theorem Up.none {n : Nat} {S S' : HD} {p : Addr} (h : Up n S S') (hp : S'.hp p = none) : S.hp p = none := by
  cases e : S.hp p with
  | none => rfl
  | some o => rw [h.hp p o e] at hp; cases hp
theorem Up.new {n : Nat} {S S' : HD} {p : Addr} {o : OD} (h : Up n S S') (hp : S'.hp p = Option.none) : Up n S (S'.set p o) := h.set (h.none hp)
theorem Up.fin {n : Nat} {S S' : HD} {Q : QD} {d : D} (h : Up n S S') (q : Q d (S.tick n)) : PD.fin Q d S' := fin.le h.le q
theorem Up.trans {n m : Nat} {S S1 S2 : HD} (a : Up n S S1) (b : Up m S1 S2) : Up (n + m) S S2 := ⟨fun x o h => b.hp x o (a.hp x o h), by have := a.c; have := b.c; omega, b.dk.trans a.dk⟩
theorem lst_nodup {i n : Nat} {d : D} {xs : List D} (h : xs[i]? = some d) : d ∈ xs := List.mem_of_getElem? h
/-- all ends of a def's body are these two -/
abbrev ends (Q : QD) : EndsD := { nx := fun _ S2 => fin Q .non S2, rt := fin Q, bk := fun _ _ => False, ct := fun _ _ => False }
end PD
end

section
/-! PD18: slices of plain data, sizes of parts. -/
namespace PD
open PySem PySem.Spec PyProof.Rows
/-- one statement, the rest held back -/
theorem seq_step {t u : TSD} {E : EndsD} {σ : SD} {S : HD} (h : ∀ N : SD → HD → Prop, (∀ σ S, u E σ S → N σ S) → t { E with nx := N } σ S) : sSeqD t u E σ S := h (u E) fun _ _ h => h
theorem cut_pre (xs : List D) (a : Nat) : cutD xs none (some (a : Int)) = xs.take a := by
  unfold cutD
  rw [HT.sIx_none, HT.sIx_nat, List.drop_zero, Nat.sub_zero]
  by_cases h : a ≤ xs.length
  · rw [Nat.min_eq_left h]
  · rw [Nat.min_eq_right (by omega), List.take_of_length_le (Nat.le_refl _), List.take_of_length_le (by omega)]
theorem cut_last (xs : List D) : cutD xs none (some (-1)) = xs.take (xs.length - 1) := by
  unfold cutD
  rw [HT.sIx_none, List.drop_zero, Nat.sub_zero]
  have e : HT.sIx xs.length xs.length (some (-1)) = xs.length - 1 := by
    unfold HT.sIx
    simp only [show ((-1 : Int) < 0) by decide, if_true]
    omega
  rw [e]
theorem nrm_ok' {S : HD} {v : D} (h : okR v = true) : nrm S v = v := by
  cases v <;> first | rfl | cases h
theorem cut_suf (xs : List D) (a : Nat) : cutD xs (some (a : Int)) none = xs.drop a := by
  unfold cutD
  rw [HT.sIx_none, HT.sIx_nat]
  by_cases h : a ≤ xs.length
  · rw [Nat.min_eq_left h, List.take_of_length_le (by rw [List.length_drop]; exact Nat.le_refl _)]
  · rw [Nat.min_eq_right (by omega), Nat.sub_self, List.take_zero, List.drop_of_length_le (by omega)]
theorem cut_mid (xs : List D) (a b : Nat) (h : a ≤ b) : cutD xs (some (a : Int)) (some (b : Int)) = (xs.take b).drop a := by
  unfold cutD
  rw [HT.sIx_nat, HT.sIx_nat, List.drop_take]
  by_cases h1 : b ≤ xs.length
  · rw [Nat.min_eq_left h1, Nat.min_eq_left (by omega)]
  · rw [Nat.min_eq_right (a := b) (by omega)]
    by_cases h2 : a ≤ xs.length
    · rw [Nat.min_eq_left h2, List.take_of_length_le (by rw [List.length_drop]; exact Nat.le_refl _), List.take_of_length_le (by rw [List.length_drop]; omega)]
    · rw [Nat.min_eq_right (a := a) (by omega), Nat.sub_self, List.take_zero, List.drop_of_length_le (by omega), List.take_nil]
theorem szL_parts (xs : List D) (a : Nat) : szL (xs.take a) + szL (xs.drop a) = szL xs := by
  rw [← szL_app, List.take_append_drop]
theorem szL_len : ∀ xs : List D, 2 * xs.length ≤ szL xs
  | [] => Nat.le_refl _
  | x :: xs => by
    have := szL_len xs
    simp only [List.length_cons, szL]
    omega
theorem okRL_app {xs ys : List D} (h1 : okRL xs = true) (h2 : okRL ys = true) : okRL (xs ++ ys) = true :=
  okRL_of fun x hx => (List.mem_append.mp hx).elim (okRL_mem h1) (okRL_mem h2)
theorem okRL_sub {xs ys : List D} (h1 : okRL xs = true) (h : ∀ y ∈ ys, y ∈ xs) : okRL ys = true := okRL_of fun x hx => okRL_mem h1 (h x hx)
theorem depL_sub {xs ys : List D} (h : ∀ y ∈ ys, y ∈ xs) : depL ys ≤ depL xs := depL_of fun x hx => depL_le (h x hx)
theorem depL_app {xs ys : List D} : depL (xs ++ ys) = max (depL xs) (depL ys) := by
  induction xs with
  | nil => simp [depL]
  | cons x xs ih => simp only [List.cons_append, depL, ih]; omega
theorem szL_take (xs : List D) (a : Nat) : szL (xs.take a) ≤ szL xs := by have := szL_parts xs a; omega
theorem szL_drop (xs : List D) (a : Nat) : szL (xs.drop a) ≤ szL xs := by have := szL_parts xs a; omega
theorem szL_split {xs : List D} {a : Nat} {d : D} (h : xs[a]? = some d) : szL (xs.take a) + (sz d + 2) + szL (xs.drop (a + 1)) = szL xs := by
  obtain ⟨hl, rfl⟩ := List.getElem?_eq_some_iff.mp h
  have e := szL_parts xs a
  rw [List.drop_eq_getElem_cons hl] at e
  simp only [szL] at e
  omega
theorem atI_get {xs : List D} {a : Nat} (h : a < xs.length) : L2.atI xs (a : Int) = some xs[a] := by
  unfold L2.atI L2.ixN
  rw [if_pos (by omega), if_pos (by omega)]
  simp [h]
end PD
end

section
/-! PD19: enumerate and zip over lists, tuples and texts alike. -/
namespace PD
open PySem PySem.Spec PyProof.Rows L2
inductive SK where | lst | tup | str
def signs (z : Str) : List V := z.cps.toList.map fun c => .str ⟨#[c]⟩
/-- what is walked: v has the items xs -/
def SrcV (K : PySem.W.Frag) (H : Hp) : SK → V → List V → Prop
  | .lst, v, xs => ∃ a, v = .ref a ∧ SqL K H a xs
  | .tup, v, xs => ∃ a, v = .ref a ∧ SqT K H a xs
  | .str, v, xs => ∃ z, v = .str z ∧ xs = signs z
/-- its iterator stands at i -/
def ItSt : SK → Value → Addr → Nat → Heap → Prop
  | .lst, u, it, i, h => ∃ a, u = .ref a ∧ h.IsListIter it a i
  | .tup, u, it, i, h => ∃ a, u = .ref a ∧ h.IsTupleIter it a i
  | .str, u, it, i, h => ∃ z t, u = .str z t ∧ h.IsStrIter it (strIterType z) z t i
theorem ItSt.obj {k : SK} {u : Value} {it : Addr} {i : Nat} {h : Heap} (st : ItSt k u it i h) : ∃ o vs, h.get? it = some o ∧ o.data = .fields vs := by
  cases k with
  | lst => obtain ⟨_, _, o, e, _, d⟩ := st; exact ⟨o, _, e, d⟩
  | tup => obtain ⟨_, _, o, e, _, d⟩ := st; exact ⟨o, _, e, d⟩
  | str => obtain ⟨_, _, _, o, e, _, d⟩ := st; exact ⟨o, _, e, d⟩
theorem ItSt.move {k : SK} {u : Value} {it : Addr} {i : Nat} {h h' : Heap} (st : ItSt k u it i h) (hk : ∀ o, h.get? it = some o → h'.get? it = some o) : ItSt k u it i h' := by
  cases k with
  | lst => obtain ⟨a, q, o, e, r⟩ := st; exact ⟨a, q, o, hk o e, r⟩
  | tup => obtain ⟨a, q, o, e, r⟩ := st; exact ⟨a, q, o, hk o e, r⟩
  | str => obtain ⟨z, t, q, o, e, r⟩ := st; exact ⟨z, t, q, o, hk o e, r⟩
theorem vals_getR : ∀ {xs : List V} {us : List Value} {j : Nat} {y : Value}, Vals xs us → us[j]? = some y → ∃ x, xs[j]? = some x ∧ RelV x y
  | _, _, _, _, .nil, h => by simp at h
  | _, _, 0, y, .cons r _, h => by
    simp at h
    subst h
    exact ⟨_, rfl, r⟩
  | _, _, j + 1, y, .cons _ rs, h => by
    obtain ⟨x, h1, h2⟩ := vals_getR (j := j) rs (by simpa using h)
    exact ⟨x, by simpa using h1, h2⟩
def Below (u : Value) (N : Nat) : Prop := ∀ a, u = .ref a → a < N
section
variable {X : Cx} {pins : List (Addr × Obj)} {σ : L2.St} {H : Hp} {s : Shared}
theorem srcV_inj (I : Inv X pins σ H s) {k : SK} {v : V} {xs ys : List V} (h : SrcV X.K H k v xs) (h' : SrcV X.K H k v ys) : xs = ys := by
  cases k with
  | lst => obtain ⟨a, rfl, h⟩ := h; obtain ⟨b, e, h'⟩ := h'; cases e; exact I.list_inj h h'
  | tup => obtain ⟨a, rfl, h⟩ := h; obtain ⟨b, e, h'⟩ := h'; cases e; exact I.tuple_inj h h'
  | str => obtain ⟨a, rfl, rfl⟩ := h; obtain ⟨b, e, rfl⟩ := h'; cases e; rfl
theorem signs_get {z : Str} {j c : Nat} (h : z.cps[j]? = some c) : (signs z)[j]? = some (.str ⟨#[c]⟩) := by
  unfold signs
  rw [List.getElem?_map, Array.getElem?_toList, h]
  rfl
theorem signs_len (z : Str) : (signs z).length = z.cps.size := by simp [signs]
theorem srcV_draws (I : Inv X pins σ H s) {A : Around} (hh : A.handled = none) {k : SK} {v : V} {xs : List V} {u : Value} {it : Addr} {i : Nat} (hq : SrcV X.K H k v xs) (hv : RelV v u) (hit : ItSt k u it i s.heap) :
    ∃ (rest : List Addr) (Pp : Nat → Value → Prop) (St : Nat → Heap → Prop), Draws X.prog X.w A it (it :: rest) xs.length Pp St ∧ St i s.heap ∧ (∀ j y, Pp j y → ∃ x, xs[j]? = some x ∧ RelV x y) ∧ (∀ j h, St j h → ItSt k u it j h) ∧ ∀ b ∈ rest, u = .ref b := by
  cases k with
  | lst =>
    obtain ⟨a, rfl, hq⟩ := hq
    obtain rfl : u = Value.ref a := hv
    obtain ⟨its, r, p, z⟩ := I.list hq
    obtain ⟨_, e, hit⟩ := hit
    cases e
    have ne : a ≠ it := fun e => by
      obtain ⟨o, n, e1, _, _, d1⟩ := id p
      obtain ⟨o2, e2, _, d2⟩ := hit
      rw [e, e2] at e1
      cases e1
      rw [d1] at d2
      cases d2
    have en : its.toArray.size = xs.length := by rw [List.size_toArray]; exact r.length.symm
    have D := Draws.list (prog := X.prog) (w := X.w) hh it a ne its.toArray
    rw [en] at D
    exact ⟨[a], _, _, D, ⟨hit, p.isList⟩, fun j y hy => vals_getR r (by simpa using hy), fun j h st => ⟨a, rfl, st.1⟩, fun b hb => by rw [List.mem_singleton.mp hb]⟩
  | tup =>
    obtain ⟨a, rfl, hq⟩ := hq
    obtain rfl : u = Value.ref a := hv
    obtain ⟨its, r, p, z⟩ := I.tuple hq
    obtain ⟨_, e, hit⟩ := hit
    cases e
    have ne : a ≠ it := fun e => by
      obtain ⟨o, e1, _, n, d1⟩ := id p
      obtain ⟨o2, e2, _, d2⟩ := hit
      rw [e, e2] at e1
      cases e1
      rw [d1] at d2
      cases d2
    have en : its.toArray.size = xs.length := by rw [List.size_toArray]; exact r.length.symm
    have D := Draws.tuple (prog := X.prog) (w := X.w) hh it a ne its.toArray
    rw [en] at D
    exact ⟨[a], _, _, D, ⟨hit, p⟩, fun j y hy => vals_getR r (by simpa using hy), fun j h st => ⟨a, rfl, st.1⟩, fun b hb => by rw [List.mem_singleton.mp hb]⟩
  | str =>
    obtain ⟨z, rfl, rfl⟩ := hq
    obtain ⟨t, rfl⟩ := hv
    obtain ⟨_, _, e, hit⟩ := hit
    cases e
    have D := Draws.text (prog := X.prog) (w := X.w) hh it z t
    rw [← signs_len] at D
    exact ⟨[], _, _, D, hit, fun j y ⟨c, u, hc, e⟩ => ⟨_, signs_get hc, by rw [e]; exact ⟨u, rfl⟩⟩, fun j h st => ⟨z, t, rfl, st⟩, fun b hb => (by cases hb)⟩
/-- at the end -/
theorem srcV_end (I : Inv X pins σ H s) {A : Around} (hh : A.handled = none) {k : SK} {v : V} {xs : List V} {u : Value} {it : Addr} {i : Nat} (hq : SrcV X.K H k v xs) (hv : RelV v u) (hit : ItSt k u it i s.heap) (hi : xs.length ≤ i) :
    ∃ (rest : List Addr) (Pp : Nat → Value → Prop) (St : Nat → Heap → Prop), Draws X.prog X.w A it (it :: rest) i Pp St ∧ St i s.heap ∧ ∀ b ∈ rest, u = .ref b := by
  have mk : ∀ (rest : List Addr) (S0 : Heap → Prop), S0 s.heap → (∀ h, S0 h → ∃ o, h.get? it = some o) → (∀ h h', S0 h → (∀ b ∈ it :: rest, ∀ o, h.get? b = some o → h'.get? b = some o) → S0 h') → (∀ b ∈ rest, u = .ref b) →
      (∀ (s : Shared) (Q : Value → Shared → Prop) (E : Value → Shared → Prop), S0 s.heap → (∀ h' e, Heap.ExtBut it s.heap h' → (∃ o, h'.get? e = some o ∧ o.cls = .type "StopIteration") → E (.ref e) { s with heap := h' }) → wpAny (model X.prog X.w) A (Builtin.SmallTypes.nextOf (.ref it)) Q E s) →
      ∃ (rest : List Addr) (Pp : Nat → Value → Prop) (St : Nat → Heap → Prop), Draws X.prog X.w A it (it :: rest) i Pp St ∧ St i s.heap ∧ ∀ b ∈ rest, u = .ref b := fun rest S0 h0 h1 h2 h3 h4 =>
    ⟨rest, fun _ _ => False, fun j h => j = i ∧ S0 h, { live := fun j h st => h1 h st.2, frame := fun j h h' st kp => ⟨st.1, h2 h h' st.2 kp⟩, item := fun j s Q E hj st _ => absurd st.1 (Nat.ne_of_lt hj), done := fun s Q E st hE => h4 s Q E st.2 hE }, ⟨rfl, h0⟩, h3⟩
  cases k with
  | lst =>
    obtain ⟨a, rfl, hq⟩ := hq
    obtain rfl : u = Value.ref a := hv
    obtain ⟨its, r, p, z⟩ := I.list hq
    obtain ⟨_, e, hit⟩ := hit
    cases e
    have := r.length
    exact mk [a] (fun h => h.IsListIter it a i ∧ h.IsList a its.toArray) ⟨hit, p.isList⟩ (fun h st => let ⟨o, ho, _⟩ := st.1; ⟨o, ho⟩) (fun h h' st kp => ⟨st.1.at fun o e => kp it (by simp) o e, st.2.at fun o e => kp a (by simp) o e⟩) (fun b hb => by rw [List.mem_singleton.mp hb])
      fun s Q E st hE => wpAny_nextOf_list_end hh st.1 st.2 (by simp; omega) hE
  | tup =>
    obtain ⟨a, rfl, hq⟩ := hq
    obtain rfl : u = Value.ref a := hv
    obtain ⟨its, r, p, z⟩ := I.tuple hq
    obtain ⟨_, e, hit⟩ := hit
    cases e
    have := r.length
    exact mk [a] (fun h => h.IsTupleIter it a i ∧ h.IsTuple a its.toArray) ⟨hit, p⟩ (fun h st => let ⟨o, ho, _⟩ := st.1; ⟨o, ho⟩) (fun h h' st kp => ⟨st.1.at fun o e => kp it (by simp) o e, st.2.at fun o e => kp a (by simp) o e⟩) (fun b hb => by rw [List.mem_singleton.mp hb])
      fun s Q E st hE => wpAny_nextOf_tuple_end hh st.1 st.2 (by simp; omega) hE
  | str =>
    obtain ⟨z, rfl, rfl⟩ := hq
    obtain ⟨t, rfl⟩ := hv
    obtain ⟨_, _, e, hit⟩ := hit
    cases e
    rw [signs_len] at hi
    refine mk [] (fun h => h.IsStrIter it (strIterType z) z t i) hit (fun h st => let ⟨o, ho, _⟩ := st; ⟨o, ho⟩) (fun h h' st kp => let ⟨o, ho, r⟩ := st; ⟨o, kp it (by simp) o ho, r⟩) (fun b hb => (by cases hb)) fun s Q E st hE => ?_
    have hx : z.cps[i]? = none := Array.getElem?_eq_none hi
    cases ha : z.cps.all (· < 128)
    · simp only [strIterType, ha, Bool.false_eq_true, if_false] at st
      exact wpAny_nextOf_wide_end hh st hx hE
    · simp only [strIterType, ha, if_true] at st
      exact wpAny_nextOf_ascii_end hh st hx hE
/-- the iterator is made -/
theorem srcV_begins (I : Inv X pins σ H s) {k : SK} {v : V} {xs : List V} {u : Value} (hq : SrcV X.K H k v xs) (hv : RelV v u) :
    ∃ (o : Obj) (Hp : Heap → Prop), Begins u o Hp ∧ Hp s.heap ∧ Below u s.heap.objs.size ∧ ∀ (h : Heap) (it : Addr), h.get? it = some o → ItSt k u it 0 h := by
  cases k with
  | lst =>
    obtain ⟨a, rfl, hq⟩ := hq
    obtain rfl : u = Value.ref a := hv
    obtain ⟨its, r, p, z⟩ := I.list hq
    exact ⟨_, _, begins_list a its.toArray, p.isList, fun b e => (by cases e; exact p.lt), fun h it e => ⟨a, rfl, _, e, rfl, rfl⟩⟩
  | tup =>
    obtain ⟨a, rfl, hq⟩ := hq
    obtain rfl : u = Value.ref a := hv
    obtain ⟨its, r, p, z⟩ := I.tuple hq
    exact ⟨_, _, begins_tuple a its.toArray, p, fun b e => (by cases e; obtain ⟨o, e1, _⟩ := p; exact Heap.lt_size e1), fun h it e => ⟨a, rfl, _, e, rfl, rfl⟩⟩
  | str =>
    obtain ⟨z, rfl, rfl⟩ := hq
    obtain ⟨t, rfl⟩ := hv
    exact ⟨_, _, begins_text z t, trivial, fun b e => (by cases e), fun h it e => ⟨z, t, rfl, _, e, rfl, rfl⟩⟩
end
/-! ### enumerate -/
def IteA (K : PySem.W.Frag) (k : SK) (v : V) : It :=
  ⟨fun i H => ∃ (xs : List V) (x : V), SrcV K H k v xs ∧ xs[i]? = some x, fun i H y H' => ∃ T x, y = .ref T ∧ H T = none ∧ H' = upd H T (.tup [.int (i : Nat), x]) ∧ ∀ xs, SrcV K H k v xs → xs[i]? = some x, fun i H => ∃ xs : List V, SrcV K H k v xs ∧ xs.length ≤ i⟩
theorem turn_enumA {P : Program} {w : World} {K : PySem.W.Frag} {elts : List Expr} {kk : Nat} {tpos : Pos} (k : SK) (v : V) (u : Value) (hv : RelV v u) (N : Nat) (hN : Below u N) :
    Turn P w K (.Tuple elts kk tpos) (IteA K k v) [N + 1, N] (N + 1) (fun i h => (∃ old, IsEnum h (N + 1) N ((i : Nat) : Int) old) ∧ ItSt k u N i h) where
  mem := by simp
  obj := fun i h st b hb => by
    obtain ⟨⟨old, he⟩, hi⟩ := st
    obtain ⟨o, vs, ho, hd⟩ := hi.obj
    have e' : b = N + 1 ∨ b = N := by simpa using hb
    rcases e' with z | z
    · rw [z]; exact ⟨_, he, fun v q => nomatch q⟩
    · rw [z]; exact ⟨o, ho, fun v q => by rw [hd] at q; cases q⟩
  keep := fun i h h' st kp => let ⟨⟨old, he⟩, hi⟩ := st; ⟨⟨old, kp (N + 1) (by simp) _ he⟩, hi.move fun o q => kp N (by simp) o q⟩
  item := by
    intro X hP hw hK hc i pins s σ H E I hf st hg
    subst hP hw hK
    obtain ⟨⟨old, he⟩, hit⟩ := st
    obtain ⟨xs, x, hq, hx⟩ := hg
    have hne : (N + 1 : Nat) ≠ N := Nat.succ_ne_self N
    obtain ⟨rest, Pp, St, D, hst, hPp, hnx, hr⟩ := srcV_draws I (A := X.A.in1) (I.ok.hd hc) hq hv hit
    have hef : (N + 1 : Nat) ∉ N :: rest := fun hm => by
      rcases List.mem_cons.mp hm with e | hm
      · exact hne e
      · have := hN _ (hr _ hm)
        exact absurd this (by show ¬ ((N + 1 : Nat) < N); omega)
    have hil : i < xs.length := (List.getElem?_eq_some_iff.mp hx).1
    have hel : (N + 1 : Nat) < s.heap.objs.size := Heap.lt_size he
    have hNl : (N : Nat) < s.heap.objs.size := Nat.lt_of_succ_lt hel
    refine wpAny_pyNext_enum_itemD D he hst hil hne hef fun y h' tk hP1 ho hst' hT hsz hk => ?_
    obtain ⟨x', hx', ry⟩ := hPp i y hP1
    rw [hx] at hx'
    cases hx'
    refine ⟨_, rfl, wpAny_letOwnedTupleGo_enum (s := { s with heap := h', toks := tk + 1 }) ho fun h'' he' sb => ?_⟩
    have hT2 : h''.get? s.heap.objs.size = some { cls := .type "tuple", data := .seq #[.int i tk, y] } := (sb.2 _ (Nat.ne_of_gt hel)).trans hT
    have new : ObjOk X.prog X.w (upd H s.heap.objs.size (.tup [.int (i : Nat), x])) h'' s.heap.objs.size (.tup [.int (i : Nat), x]) :=
      ⟨by show 2 ≤ sizeLine; decide, [.int i tk, y], .cons ⟨_, rfl⟩ (.cons ry .nil), ⟨_, hT2, rfl, _, rfl⟩⟩
    have I1 : Inv X pins σ (upd H s.heap.objs.size (.tup [.int (i : Nat), x])) { s with heap := h'', toks := tk + 1 } :=
      I.turnedNew (ch := [N + 1, N]) (fun b ob hb q => (sb.2 b (fun z => hb (by simp [z]))).trans (hk b ob (fun z => hb (by simp [z])) (fun z => hb (by simp [z])) q)) hf (Nat.le_refl _) new
    refine ⟨.ref s.heap.objs.size, _, I1, rfl, ⟨_, x, rfl, I.hok.fresh (Nat.le_refl _), rfl, fun ys hy => by rw [srcV_inj I hy hq]; exact hx⟩, ⟨⟨y, ?_⟩, (hnx _ _ hst').move fun o q => (sb.2 N (Ne.symm hne)).trans q⟩, fun b hb => ?_⟩
    · rw [show ((i + 1 : Nat) : Int) = (i : Int) + 1 from rfl]
      exact he'
    · have e' : b = N + 1 ∨ b = N := by simpa using hb
      have hb' : b < s.heap.objs.size := e'.elim (fun z => by rw [z]; exact hel) (fun z => by rw [z]; exact hNl)
      rw [upd_ne (Nat.ne_of_lt hb')]
      exact (hf b hb).1
  done := by
    intro X hP hw hK hc i pins s σ H E I hf st hg
    subst hP hw hK
    obtain ⟨⟨old, he⟩, hit⟩ := st
    obtain ⟨xs, hq, hx⟩ := hg
    obtain ⟨f0, f1, f2, f3, f4, f5⟩ := hf N (by simp)
    obtain ⟨rest, Pp, St, D, hst, hr⟩ := srcV_end I (A := X.A.in1) (I.ok.hd hc) hq hv hit hx
    exact wpAny_pyNext_enum_endD D he hst fun h' eb => ⟨rfl, I.turned (t' := s.toks) (fun b o hb q => eb b o hb q) f0 f1 f3 f4 f5⟩
  self := fun A i s Q E st h => let ⟨⟨_, he⟩, _⟩ := st; wpAny_pyIter_enum he h
theorem meets_enum1 {v : Value} {o : Obj} {H : Heap → Prop} (B : Begins v o H) :
    Meets (Builtin.«enumerate.__new__» ⟨[.type "enumerate", v], []⟩) (fun _ R s => H s.heap ∧ R (.ok (.ret (.ref (s.heap.push o).objs.size))) { s with heap := (s.heap.push o).push { cls := .type "enumerate", data := .fields #[.none, .bool false, .ref s.heap.objs.size, rawInt 0, .none, .none] } }) :=
  .of_wp fun prog w A R s h => by
    obtain ⟨hp, g, d, tk, os⟩ := s
    obtain ⟨h1, h⟩ := h
    have hsub := sub_enumerate
    have q1 : ∀ {A' : Around} {E : Value → Shared → Prop} {Q : Value → Shared → Prop}, Q (.ref hp.objs.size) ⟨hp.push o, g, d, tk, os⟩ → wpAny (model prog w) A' (pyIter v) Q E ⟨hp, g, d, tk, os⟩ := fun q => B.iter prog w _ _ ⟨hp, g, d, tk, os⟩ _ h1 q
    wp_walk using q1
    refine wpAny_stack_any fun st => wpAny_pure ?_
    split
    · rename_i c _ _ _ _ _
      cases (c == Value.type "enumerate") <;> (wp_walk using q1; exact ⟨_, rfl, h⟩)
    · wp_walk using q1
      exact ⟨_, rfl, h⟩
section
variable {prog : Program} {w : World} {A : Around} {E : Value → Shared → Prop} {s : Shared}
theorem enum_begins1 {v : Value} {o : Obj} {H : Heap → Prop} {Q : Value → Shared → Prop} (B : Begins v o H) (h1 : H s.heap)
    (h : ∀ h', IsEnum h' (s.heap.objs.size + 1) s.heap.objs.size 0 .none → h'.get? s.heap.objs.size = some o → (∀ b o, s.heap.get? b = some o → h'.get? b = some o) → Q (.ref (s.heap.objs.size + 1)) { s with heap := h' }) :
    wpAny (model prog w) A (call (.type "enumerate") [v]) Q E s := by
  refine callType_new F.called_enumerate (by decide) (F.typeCall_enumerate_1 _) (F.newCall_enumerate_1 _) (fun obj => F.args_object_init_2 obj _) F.entry_enumerate_new (meets_enum1 B) ⟨h1, ?_⟩
  have hz : (s.heap.push o).objs.size = s.heap.objs.size + 1 := Heap.size_push ..
  have he := Heap.get?_push_size (s.heap.push o) (o := { cls := .type "enumerate", data := .fields #[.none, .bool false, .ref s.heap.objs.size, rawInt 0, .none, .none] }) rfl
  show _ ∧ _
  rw [hz] at he ⊢
  exact ⟨⟨_, he, rfl⟩, h _ he (Heap.get?_push_of_some _ (Heap.get?_push_size _ B.free)) fun b o x => Heap.get?_push_of_some _ (Heap.get?_push_of_some _ x)⟩
end
def iEnumA (K : PySem.W.Frag) (ta : TA) : TI := fun σ H R => ta σ H fun vs H1 => ∃ v k xs, vs = [v] ∧ SrcV K H1 k v xs ∧ R (IteA K k v) H1
theorem pi_enumA {X : Cx} {e : Expr} {ta : TA} {p pos tpos : Pos} {elts : List Expr} {kk : Nat} (hg : Gl X "enumerate") (hm : X.mg "enumerate" = none) (ha : PA X [e] ta) (hs : starEach [e] X.env = [(false, eval e X.env)] := by rfl) :
    PI X (.Tuple elts kk tpos) (.Call (.Name "enumerate" p) [e] [] pos) (iEnumA X.K ta) := by
  refine ⟨fun pins s σ H R I h => Call_ (ld_blt I hg hm boot_enumerate (PyProof.Rows.callWith_type1 (thn (ha.run pos pins s σ H _ I h) fun us s1 ⟨vs, H1, I1, r1, v, k, xs, ex, hq, q⟩ => ?_) hs rfl))⟩
  subst ex
  cases r1 with
  | @cons _ u _ _ r rr =>
    cases rr
    obtain ⟨o, Hq, B, b1, bl, bi⟩ := srcV_begins I1 hq r
    refine enum_begins1 B b1 fun h' he hit hk => wpAny_pyIter_enum he ?_
    refine ⟨s1.heap.objs.size + 1, [s1.heap.objs.size + 1, s1.heap.objs.size], _, _, H1, rfl, I1.kept (t' := s1.toks) hk, turn_enumA k v u r s1.heap.objs.size bl, ⟨⟨.none, he⟩, bi _ _ hit⟩, fun b hb => ?_, q⟩
    have e' : b = s1.heap.objs.size + 1 ∨ b = s1.heap.objs.size := by simpa using hb
    have hle : s1.heap.objs.size ≤ b := e'.elim (fun z => by rw [z]; exact Nat.le_add_right _ _) fun z => by rw [z]; exact Nat.le_refl _
    exact I1.fpOk hle (I1.hok.fresh hle)
/-! ### zip -/
def ItzA (K : PySem.W.Frag) (k1 k2 : SK) (v1 v2 : V) : It :=
  ⟨fun i H => ∃ (xs ys : List V) (x y : V), SrcV K H k1 v1 xs ∧ SrcV K H k2 v2 ys ∧ xs[i]? = some x ∧ ys[i]? = some y,
    fun i H v H' => ∃ T x y, v = .ref T ∧ H T = none ∧ H' = upd H T (.tup [x, y]) ∧ (∀ xs, SrcV K H k1 v1 xs → xs[i]? = some x) ∧ ∀ ys, SrcV K H k2 v2 ys → ys[i]? = some y,
    fun i H => ∃ xs ys : List V, SrcV K H k1 v1 xs ∧ SrcV K H k2 v2 ys ∧ (xs.length = i ∧ i ≤ ys.length ∨ ys.length = i ∧ i ≤ xs.length)⟩
theorem turn_zipX {P : Program} {w : World} {K : PySem.W.Frag} {elts : List Expr} {kk : Nat} {tpos : Pos} (k1 k2 : SK) (v1 v2 : V) (u1 u2 : Value) (hv1 : RelV v1 u1) (hv2 : RelV v2 u2) (N : Nat) (hN1 : Below u1 N) (hN2 : Below u2 N) :
    Turn P w K (.Tuple elts kk tpos) (ItzA K k1 k2 v1 v2) [N + 4, N + 2, N + 3, N, N + 1] (N + 4)
      (fun i h => IsZip h (N + 4) (N + 2) (N + 3) .none ∧ IsTupOf2 h (N + 2) (.ref N) (.ref (N + 1)) ∧ (∃ a b, IsTupOf2 h (N + 3) a b) ∧ ItSt k1 u1 N i h ∧ ItSt k2 u2 (N + 1) i h) where
  mem := by simp
  obj := fun i h st c hc => by
    obtain ⟨hz, hTI, ⟨x, y, hTO⟩, h1, h2⟩ := st
    obtain ⟨o1, vs1, e1, d1⟩ := h1.obj
    obtain ⟨o2, vs2, e2, d2⟩ := h2.obj
    have e' : c = N + 4 ∨ c = N + 2 ∨ c = N + 3 ∨ c = N ∨ c = N + 1 := by simpa using hc
    rcases e' with q | q | q | q | q <;> rw [q]
    · exact ⟨_, hz, fun v q => nomatch q⟩
    · exact ⟨_, hTI, fun v q => nomatch q⟩
    · exact ⟨_, hTO, fun v q => nomatch q⟩
    · exact ⟨o1, e1, fun v q => by rw [d1] at q; cases q⟩
    · exact ⟨o2, e2, fun v q => by rw [d2] at q; cases q⟩
  keep := fun i h h' st kp => by
    obtain ⟨hz, hTI, ⟨x, y, hTO⟩, h1, h2⟩ := st
    exact ⟨kp _ (by simp) _ hz, kp _ (by simp) _ hTI, ⟨x, y, kp _ (by simp) _ hTO⟩, h1.move fun o q => kp _ (by simp) o q, h2.move fun o q => kp _ (by simp) o q⟩
  item := by
    intro X hP hw hK hc i pins s σ H E I hf st hg
    subst hP hw hK
    obtain ⟨hz, hTI, ⟨x0, y0, hTO⟩, h1, h2⟩ := st
    obtain ⟨xs, ys, x, y, hqx, hqy, hx, hy⟩ := hg
    obtain ⟨r1, P1, St1, D1, s1, p1, n1, b1⟩ := srcV_draws I (A := X.A.in1) (I.ok.hd hc) hqx hv1 h1
    obtain ⟨r2, P2, St2, D2, s2, p2, n2, b2⟩ := srcV_draws I (A := X.A.in1) (I.ok.hd hc) hqy hv2 h2
    have S := zip_sep2 (N := N) (fp1 := r1) (fp2 := r2) (fun b hb => hN1 b (b1 b hb)) (fun b hb => hN2 b (b2 b hb))
    have hzl : (N + 4 : Nat) < s.heap.objs.size := Heap.lt_size hz
    refine wpAny_pyNext_zipD2_item S D1 D2 hz hTI hTO s1 s2 (List.getElem?_eq_some_iff.mp hx).1 (List.getElem?_eq_some_iff.mp hy).1 fun u u' h' tk y1 y2 z' TO' h1' h2' hT hsz hk => ?_
    obtain ⟨x', e1, ru⟩ := p1 i u y1
    obtain ⟨y', e2, ru2⟩ := p2 i u' y2
    rw [hx] at e1
    rw [hy] at e2
    cases e1
    cases e2
    refine ⟨_, rfl, wpAny_letOwnedTupleGo_zip (s := { s with heap := h', toks := tk }) z' fun h'' z'' sb => ?_⟩
    have hT2 : h''.get? s.heap.objs.size = some { cls := .type "tuple", data := .seq #[u, u'] } := (sb.2 _ (Nat.ne_of_gt hzl)).trans hT
    have new : ObjOk X.prog X.w (upd H s.heap.objs.size (.tup [x, y])) h'' s.heap.objs.size (.tup [x, y]) := ⟨by show 2 ≤ sizeLine; decide, [u, u'], .cons ru (.cons ru2 .nil), ⟨_, hT2, rfl, _, rfl⟩⟩
    have I1 : Inv X pins σ (upd H s.heap.objs.size (.tup [x, y])) { s with heap := h'', toks := tk } :=
      I.turnedNew (ch := [N + 4, N + 2, N + 3, N, N + 1]) (fun c o hb q => (sb.2 c (fun q' => hb (by simp [q']))).trans (hk c o (fun q' => hb (by simp [q'])) (fun q' => hb (by simp [q'])) (fun q' => hb (by simp [q'])) (fun q' => hb (by simp [q'])) q)) hf (Nat.le_refl _) new
    have nz : ∀ c : Nat, c ≠ N + 4 → ∀ o, h'.get? c = some o → h''.get? c = some o := fun c hc o q => (sb.2 c hc).trans q
    refine ⟨.ref s.heap.objs.size, _, I1, rfl, ⟨_, x, y, rfl, I.hok.fresh (Nat.le_refl _), rfl, fun l hl => by rw [srcV_inj I hl hqx]; exact hx, fun l hl => by rw [srcV_inj I hl hqy]; exact hy⟩, ⟨z'', ?_, ⟨u, u', ?_⟩, ?_, ?_⟩, fun c hcm => ?_⟩
    · exact nz (N + 2) (by omega) _ (hk _ _ S.TIz S.TITO S.TIi1 S.TIi2 hTI)
    · exact nz (N + 3) (by omega) _ TO'
    · exact (n1 _ _ h1').move fun o q => nz N (by omega) o q
    · exact (n2 _ _ h2').move fun o q => nz (N + 1) (by omega) o q
    · have hlt : c < s.heap.objs.size := by
        have e' : c = N + 4 ∨ c = N + 2 ∨ c = N + 3 ∨ c = N ∨ c = N + 1 := by simpa using hcm
        have : ∀ m : Nat, m ≤ N + 4 → m < s.heap.objs.size := fun m hm => by omega
        rcases e' with q | q | q | q | q <;> (rw [q]; exact this _ (by omega))
      rw [upd_ne (Nat.ne_of_lt hlt)]
      exact (hf c hcm).1
  done := by
    intro X hP hw hK hc i pins s σ H E I hf st hg
    subst hP hw hK
    obtain ⟨hz, hTI, ⟨x0, y0, hTO⟩, h1, h2⟩ := st
    obtain ⟨xs, ys, hqx, hqy, hend⟩ := hg
    obtain ⟨r1, P1, St1, D1, s1, p1, n1, b1⟩ := srcV_draws I (A := X.A.in1) (I.ok.hd hc) hqx hv1 h1
    obtain ⟨r2, P2, St2, D2, s2, p2, n2, b2⟩ := srcV_draws I (A := X.A.in1) (I.ok.hd hc) hqy hv2 h2
    have S := zip_sep2 (N := N) (fp1 := r1) (fp2 := r2) (fun b hb => hN1 b (b1 b hb)) (fun b hb => hN2 b (b2 b hb))
    exact wpAny_pyNext_zipD2_end S D1 D2 hz hTI hTO s1 s2 (by omega) (by omega) (by omega) fun h' tk hk => ⟨rfl, I.turnedL (t' := tk) (ch := [N + 4, N + 2, N + 3, N, N + 1]) (fun c o hb q =>
      hk c o (fun q' => hb (by simp [q'])) (fun q' => hb (by simp [q'])) (fun q' => hb (by simp [q'])) (fun q' => hb (by simp [q'])) q) hf⟩
  self := fun A i s Q E st h => wpAny_pyIter_zip st.1 h
def iZipX (K : PySem.W.Frag) (ta : TA) : TI := fun σ H R => ta σ H fun vs H1 => ∃ v1 v2 k1 k2 xs ys, vs = [v1, v2] ∧ SrcV K H1 k1 v1 xs ∧ SrcV K H1 k2 v2 ys ∧ R (ItzA K k1 k2 v1 v2) H1
theorem pi_zipX {X : Cx} {e e2 : Expr} {ta : TA} {p pos tpos : Pos} {elts : List Expr} {kk : Nat} (hg : Gl X "zip") (hm : X.mg "zip" = none) (ha : PA X [e, e2] ta)
    (hs : starEach [e, e2] X.env = (false, eval e X.env) :: starEach [e2] X.env := by rfl) (hpl : (backTo pos (starEach [e2] X.env)).any (·.1) = false := by rfl) :
    PI X (.Tuple elts kk tpos) (.Call (.Name "zip" p) [e, e2] [] pos) (iZipX X.K ta) := by
  refine ⟨fun pins s σ H R I h => Call_ (ld_blt I hg hm PyProof.Rows.boot_zip (PyProof.Rows.callWith_type1 (thn (ha.run pos pins s σ H _ I h) fun us s1 ⟨vs, H1, I1, r1, v1, v2, k1, k2, xs, ys, ex, hqx, hqy, q⟩ => ?_) hs hpl))⟩
  subst ex
  cases r1 with
  | @cons _ u1 _ _ ru1 rr =>
    cases rr with
    | @cons _ u2 _ _ ru2 rr =>
      cases rr
      obtain ⟨o1, Hq1, B1, b1, bl1, bi1⟩ := srcV_begins I1 hqx ru1
      obtain ⟨o2, Hq2, B2, b2, bl2, bi2⟩ := srcV_begins I1 hqy ru2
      refine zip_begins2 B1 B2 b1 b2 fun h' hz hTI hTO g1 g2 hsz hk => wpAny_pyIter_zip hz ?_
      refine ⟨s1.heap.objs.size + 4, _, _, _, H1, rfl, I1.kept (t' := s1.toks) hk, turn_zipX k1 k2 v1 v2 u1 u2 ru1 ru2 s1.heap.objs.size bl1 bl2, ⟨hz, hTI, ⟨_, _, hTO⟩, bi1 _ _ g1, bi2 _ _ g2⟩, fun c hcm => ?_, q⟩
      have e' : c = s1.heap.objs.size + 4 ∨ c = s1.heap.objs.size + 2 ∨ c = s1.heap.objs.size + 3 ∨ c = s1.heap.objs.size ∨ c = s1.heap.objs.size + 1 := by simpa using hcm
      have hle : s1.heap.objs.size ≤ c := by rcases e' with z | z | z | z | z <;> (rw [z]; first | exact Nat.le_add_right _ _ | exact Nat.le_refl _)
      exact I1.fpOk hle (I1.hok.fresh hle)
end PD
end

section
/-! PD20: what is walked, over deep values: any sequence, enumerate, zip. -/
namespace PD
open PySem PySem.Spec PyProof.Rows L2
def signsD (z : Str) : List D := z.cps.toList.map fun c => .str ⟨#[c]⟩
theorem rds_signs {K : PySem.W.Frag} {G : Addr → Prop} {S : HD} {H : Hp} (z : Str) : RDs K G S H (signsD z) (signs z) := by
  unfold signsD signs
  generalize z.cps.toList = cs
  induction cs with
  | nil => exact .nil
  | cons c cs ih => exact .cons (.str _) ih
/-- the items, and what keeps them -/
def srcD (S : HD) : D → Option (List D × (HD → Prop))
  | .tup xs => some (xs, fun _ => True)
  | .lst xs => some (xs, fun _ => True)
  | .ref a => match S.hp a with
    | some (.lst xs) => some (xs, fun S => S.hp a = some (.lst xs))
    | _ => none
  | .str z => some (signsD z, fun _ => True)
  | _ => none
def skD : D → SK
  | .tup _ => .tup
  | .str _ => .str
  | _ => .lst
theorem srcD_at {K : PySem.W.Frag} {S0 : HD} {d : D} {v : V} {xs : List D} {keep : HD → Prop} (e : srcD S0 d = some (xs, keep)) {G : Addr → Prop} {S : HD} {H : Hp} (rh : RH K G S H) (q : RD K G S H d v) (k : keep S) : ∃ vs, SrcV K H (skD d) v vs ∧ RDs K G S H xs vs := by
  cases q with
  | tup h r => cases e; exact ⟨_, ⟨_, rfl, h.sq⟩, r⟩
  | lst h r => cases e; exact ⟨_, ⟨_, rfl, h.sq⟩, r⟩
  | str z => cases e; exact ⟨_, ⟨_, rfl, rfl⟩, rds_signs z⟩
  | ref a =>
    simp only [srcD] at e
    split at e
    · cases e
      obtain ⟨_, _, vs, e1, r⟩ := rh.hp a _ k
      exact ⟨vs, ⟨a, rfl, .of e1⟩, r⟩
    · cases e
  | _ => cases e
theorem srcD_keep {S : HD} {d : D} {xs : List D} {keep : HD → Prop} (e : srcD S d = some (xs, keep)) : keep S := by
  cases d <;> first | (cases e; done) | (cases e; trivial) | skip
  simp only [srcD] at e
  split at e
  · cases e; assumption
  · cases e
/-! ### enumerate -/
def enumD (xs : List D) : List D := (xs.zipIdx).map fun p => .tup [.int (p.2 : Nat), p.1]
theorem enumD_get {xs : List D} {i : Nat} {d : D} (h : (enumD xs)[i]? = some d) : ∃ x, xs[i]? = some x ∧ d = .tup [.int (i : Nat), x] := by
  unfold enumD at h
  rw [List.getElem?_map, List.getElem?_zipIdx] at h
  cases e : xs[i]? with
  | none => rw [e] at h; cases h
  | some x => rw [e] at h; simp at h; exact ⟨x, rfl, h.symm⟩
theorem enumD_len (xs : List D) : (enumD xs).length = xs.length := by simp [enumD]
theorem itOk_enum {K : PySem.W.Frag} {G : Addr → Prop} {S : HD} {H : Hp} {k : SK} {v : V} {xs : List D} {keep : HD → Prop} (h : ∀ S1 H1, FL S H S1 H1 → RH K G S1 H1 → keep S1 → ∃ vs, SrcV K H1 k v vs ∧ RDs K G S1 H1 xs vs) : ItOk K G S H (IteA K k v) (enumD xs) keep where
  go := fun i d S1 H1 hx f r kp => by
    obtain ⟨x, hx', rfl⟩ := enumD_get hx
    obtain ⟨vs, h1, h2⟩ := h S1 H1 f r kp
    obtain ⟨y, e1, e2⟩ := h2.get hx'
    refine ⟨⟨vs, y, h1, e1⟩, fun z H2 ⟨T, y', ez, hT, eH, hy⟩ => ?_⟩
    subst ez eH
    have := hy vs h1
    rw [e1] at this
    cases this
    obtain ⟨r', f', _⟩ := r.newF hT (.tup [.int (i : Nat), y])
    exact ⟨f', r', r.newT hT (.cons (.int _) (.cons e2 .nil))⟩
  stop := fun S1 H1 f r kp => by
    obtain ⟨vs, h1, h2⟩ := h S1 H1 f r kp
    exact ⟨vs, h1, by rw [enumD_len, h2.length]; exact Nat.le_refl _⟩
def iEnumD (ta : TAD) : TID := fun σ S R => ta σ S fun ds S1 => match ds with
  | [d] => (match srcD S1 d with
    | some (xs, keep) => R (enumD xs) keep S1
    | none => False)
  | _ => False
theorem di_enum {X : Cx} {e : Expr} {ta : TAD} {p pos tpos : Pos} {elts : List Expr} {kk : Nat} (hm : X.mg "enumerate" = none) (ha : DA X [e] ta) (hg : Gl X "enumerate" := by rfl) (hs : starEach [e] X.env = [(false, eval e X.env)] := by rfl) : DI X (.Tuple elts kk tpos) (.Call (.Name "enumerate" p) [e] [] pos) (iEnumD ta) :=
  (pi_enumA hg hm ha hs).imp fun σ H R ⟨G, σd, S, Rd, rs, rh, t, p⟩ => ⟨G, σd, S, _, rs, rh, t, fun S1 ds vs H1 f1 rh1 q1 t1 => by
    split at t1
    · rename_i d
      cases q1 with
      | @cons _ v _ _ q r =>
        cases r
        split at t1
        · rename_i xs keep e
          obtain ⟨ws, h1, _⟩ := srcD_at e rh1 q (srcD_keep e)
          exact ⟨v, skD d, ws, rfl, h1, p S1 _ _ _ H1 f1 rh1 (fun G' S2 H2 m2 rh2 => itOk_enum fun S3 H3 f3 rh3 k3 => srcD_at e rh3 ((q.mv m2).fl f3) k3) t1⟩
        · exact t1.elim
    · exact t1.elim⟩
/-! ### zip -/
def zipD (xs ys : List D) : List D := (xs.zip ys).map fun p => .tup [p.1, p.2]
theorem zipD_len (xs ys : List D) : (zipD xs ys).length = min xs.length ys.length := by simp [zipD]
theorem zipD_get {xs ys : List D} {i : Nat} {d : D} (h : (zipD xs ys)[i]? = some d) : ∃ x y, xs[i]? = some x ∧ ys[i]? = some y ∧ d = .tup [x, y] := by
  unfold zipD at h
  rw [List.getElem?_map] at h
  obtain ⟨⟨x, y⟩, h1, h2⟩ := Option.map_eq_some_iff.mp h
  have := List.getElem?_zip_eq_some.mp h1
  exact ⟨x, y, this.1, this.2, h2.symm⟩
theorem itOk_zip {K : PySem.W.Frag} {G : Addr → Prop} {S : HD} {H : Hp} {k1 k2 : SK} {v1 v2 : V} {xs ys : List D} {keep : HD → Prop} (h : ∀ S1 H1, FL S H S1 H1 → RH K G S1 H1 → keep S1 → (∃ vs, SrcV K H1 k1 v1 vs ∧ RDs K G S1 H1 xs vs) ∧ ∃ vs, SrcV K H1 k2 v2 vs ∧ RDs K G S1 H1 ys vs) : ItOk K G S H (ItzA K k1 k2 v1 v2) (zipD xs ys) keep where
  go := fun i d S1 H1 hx f r kp => by
    obtain ⟨x, y, hx', hy, rfl⟩ := zipD_get hx
    obtain ⟨⟨vs, h1, h2⟩, ws, h3, h4⟩ := h S1 H1 f r kp
    obtain ⟨u, e1, e2⟩ := h2.get hx'
    obtain ⟨u', e3, e4⟩ := h4.get hy
    refine ⟨⟨vs, ws, u, u', h1, h3, e1, e3⟩, fun z H2 ⟨T, y1, y2, ez, hT, eH, g1, g2⟩ => ?_⟩
    subst ez eH
    have a1 := g1 vs h1
    have a2 := g2 ws h3
    rw [e1] at a1
    rw [e3] at a2
    cases a1
    cases a2
    obtain ⟨r', f', _⟩ := r.newF hT (.tup [u, u'])
    exact ⟨f', r', r.newT hT (.cons e2 (.cons e4 .nil))⟩
  stop := fun S1 H1 f r kp => by
    obtain ⟨⟨vs, h1, h2⟩, ws, h3, h4⟩ := h S1 H1 f r kp
    refine ⟨vs, ws, h1, h3, ?_⟩
    rw [zipD_len, h2.length, h4.length]
    omega
def iZipD (ta : TAD) : TID := fun σ S R => ta σ S fun ds S1 => match ds with
  | [d, e] => (match srcD S1 d, srcD S1 e with
    | some (xs, k1), some (ys, k2) => R (zipD xs ys) (fun S => k1 S ∧ k2 S) S1
    | _, _ => False)
  | _ => False
theorem di_zip {X : Cx} {e e2 : Expr} {ta : TAD} {p pos tpos : Pos} {elts : List Expr} {kk : Nat} (hm : X.mg "zip" = none) (ha : DA X [e, e2] ta) (hg : Gl X "zip" := by rfl)
    (hs : starEach [e, e2] X.env = (false, eval e X.env) :: starEach [e2] X.env := by rfl) (hpl : (backTo pos (starEach [e2] X.env)).any (·.1) = false := by rfl) : DI X (.Tuple elts kk tpos) (.Call (.Name "zip" p) [e, e2] [] pos) (iZipD ta) :=
  (pi_zipX hg hm ha hs hpl).imp fun σ H R ⟨G, σd, S, Rd, rs, rh, t, p⟩ => ⟨G, σd, S, _, rs, rh, t, fun S1 ds vs H1 f1 rh1 q1 t1 => by
    split at t1
    · rename_i d d'
      cases q1 with
      | @cons _ v _ _ q r =>
        cases r with
        | @cons _ v' _ _ q' r =>
          cases r
          split at t1
          · rename_i xs k1 ys k2 ea eb
            obtain ⟨ws, h1, _⟩ := srcD_at ea rh1 q (srcD_keep ea)
            obtain ⟨ws', h2, _⟩ := srcD_at eb rh1 q' (srcD_keep eb)
            exact ⟨v, v', skD d, skD d', ws, ws', rfl, h1, h2, p S1 _ _ _ H1 f1 rh1 (fun G' S2 H2 m2 rh2 => itOk_zip fun S3 H3 f3 rh3 k3 => ⟨srcD_at ea rh3 ((q.mv m2).fl f3) k3.1, srcD_at eb rh3 ((q'.mv m2).fl f3) k3.2⟩) t1⟩
          · exact t1.elim
    · exact t1.elim⟩
/-! ### anything walked by itself -/
/-- its turns -/
def ItV (K : PySem.W.Frag) (k : SK) (v : V) : It :=
  ⟨fun i H => ∃ (xs : List V) (x : V), SrcV K H k v xs ∧ xs[i]? = some x, fun i H y H' => H' = H ∧ ∀ xs, SrcV K H k v xs → xs[i]? = some y, fun i H => ∃ xs : List V, SrcV K H k v xs ∧ xs.length ≤ i⟩
theorem turn_map {P : Program} {w : World} {K : PySem.W.Frag} {tg : Expr} {J J' : It} {fp : List Addr} {it : Addr} {tn : Nat → Heap → Prop} (T : Turn P w K tg J fp it tn) (h1 : ∀ i H, J'.go i H → J.go i H) (h2 : ∀ i H x H', J'.go i H → J.yld i H x H' → J'.yld i H x H') (h3 : ∀ i H, J'.stop i H → J.stop i H) : Turn P w K tg J' fp it tn where
  mem := T.mem
  obj := T.obj
  keep := T.keep
  item := fun X hP hw hK hc i pins s σ H E I hf st hg => wpAny_mono (T.item X hP hw hK hc i pins s σ H E I hf st (h1 _ _ hg)) (fun r s1 ⟨u, e, q⟩ => ⟨u, e, wpAny_mono q (fun _ s2 ⟨x, H', a, b, c, d⟩ => ⟨x, H', a, b, h2 _ _ _ _ hg c, d⟩) fun _ _ h => h⟩) fun _ _ h => h
  done := fun X hP hw hK hc i pins s σ H E I hf st hg => T.done X hP hw hK hc i pins s σ H E I hf st (h3 _ _ hg)
  self := T.self
def iSrcV (K : PySem.W.Frag) (te : TE) : TI := fun σ H R => te σ H fun v H1 => ∃ k xs, SrcV K H1 k v xs ∧ (k = .str ∨ xs.length ≤ sizeLine → R (ItV K k v) H1)
theorem pi_src {X : Cx} {tg e : Expr} {te : TE} (he : PE X e te) : PI X tg e (iSrcV X.K te) := by
  refine ⟨fun pins s σ H R I h => thn (he.run pins s σ H _ I h) fun u s1 ⟨v, H1, I1, r1, k, xs, hq, q⟩ => ?_⟩
  cases k with
  | lst =>
    obtain ⟨a, rfl, hq⟩ := hq
    obtain rfl : u = Value.ref a := r1
    obtain ⟨its, rv, p, hz⟩ := I1.list hq
    refine wpAny_pyIter_list p.isList (pi_one (tk := s1.toks) I1 _ (turn_map (J' := ItV X.K .lst (.ref a)) (turn_list a _) (fun i H ⟨xs, x, ⟨b, e, h⟩, hx⟩ => ?_) (fun i H x H' ⟨xs, x', ⟨b, e, h⟩, hx⟩ y => ?_) fun i H ⟨xs, ⟨b, e, h⟩, hx⟩ => ?_) ⟨_, Heap.get?_push_size _ rfl, rfl, rfl⟩ (q (.inr hz)))
    · cases e; exact ⟨xs, x, h, hx⟩
    · cases e
      obtain ⟨y1, y2⟩ := y
      exact ⟨y1, fun zs ⟨b, e, hz⟩ => (by cases e; exact y2 zs hz)⟩
    · cases e; exact ⟨xs, h, hx⟩
  | tup =>
    obtain ⟨a, rfl, hq⟩ := hq
    obtain rfl : u = Value.ref a := r1
    obtain ⟨its, rv, p, hz⟩ := I1.tuple hq
    refine wpAny_pyIter_tuple (show s1.heap.IsTuple a its.toArray from p) (pi_one (tk := s1.toks) I1 _ (turn_map (J' := ItV X.K .tup (.ref a)) (turn_tuple a _) (fun i H ⟨xs, x, ⟨b, e, h⟩, hx⟩ => ?_) (fun i H x H' ⟨xs, x', ⟨b, e, h⟩, hx⟩ y => ?_) fun i H ⟨xs, ⟨b, e, h⟩, hx⟩ => ?_) ⟨_, Heap.get?_push_size _ rfl, rfl, rfl⟩ (q (.inr hz)))
    · cases e; exact ⟨xs, x, h, hx⟩
    · cases e
      obtain ⟨y1, y2⟩ := y
      exact ⟨y1, fun zs ⟨b, e, hz⟩ => (by cases e; exact y2 zs hz)⟩
    · cases e; exact ⟨xs, h, hx⟩
  | str =>
    obtain ⟨z, rfl, rfl⟩ := hq
    obtain ⟨t, rfl⟩ := r1
    have g1 : ∀ i H, (ItV X.K .str (.str z)).go i H → (Its z).go i H := fun i H ⟨xs, x, ⟨b, e, h⟩, hx⟩ => by
      cases e
      subst h
      have := (List.getElem?_eq_some_iff.mp hx).1
      rw [signs_len] at this
      exact this
    have g2 : ∀ i H x H', (ItV X.K .str (.str z)).go i H → (Its z).yld i H x H' → (ItV X.K .str (.str z)).yld i H x H' := fun i H x H' _ ⟨y1, c, hc, ev⟩ => ⟨y1, fun zs ⟨b, e, hz⟩ => by
      cases e
      subst hz ev
      exact signs_get hc⟩
    have g3 : ∀ i H, (ItV X.K .str (.str z)).stop i H → (Its z).stop i H := fun i H ⟨xs, ⟨b, e, h⟩, hx⟩ => by
      cases e
      subst h
      rw [signs_len] at hx
      exact hx
    cases ha : z.cps.all (· < 128)
    · exact wpAny_pyIter_wide ha (pi_one (tk := s1.toks) I1 _ (turn_map (turn_str _ z t "str_iterator" (.inr rfl)) g1 g2 g3) ⟨_, Heap.get?_push_size _ rfl, rfl, rfl⟩ (q (.inl rfl)))
    · exact wpAny_pyIter_ascii ha (pi_one (tk := s1.toks) I1 _ (turn_map (turn_str _ z t "str_ascii_iterator" (.inl rfl)) g1 g2 g3) ⟨_, Heap.get?_push_size _ rfl, rfl, rfl⟩ (q (.inl rfl)))
theorem itOk_v {K : PySem.W.Frag} {G : Addr → Prop} {S : HD} {H : Hp} {k : SK} {v : V} {xs : List D} {keep : HD → Prop} (h : ∀ S1 H1, FL S H S1 H1 → RH K G S1 H1 → keep S1 → ∃ vs, SrcV K H1 k v vs ∧ RDs K G S1 H1 xs vs) : ItOk K G S H (ItV K k v) xs keep where
  go := fun i d S1 H1 hx f r kp => by
    obtain ⟨vs, h1, h2⟩ := h S1 H1 f r kp
    obtain ⟨y, e1, e2⟩ := h2.get hx
    refine ⟨⟨vs, y, h1, e1⟩, fun z H2 ⟨eH, hy⟩ => ?_⟩
    subst eH
    have := hy vs h1
    rw [e1] at this
    cases this
    exact ⟨.refl _ _, r, e2⟩
  stop := fun S1 H1 f r kp => by
    obtain ⟨vs, h1, h2⟩ := h S1 H1 f r kp
    exact ⟨vs, h1, by rw [h2.length]; exact Nat.le_refl _⟩
/-- a list, a tuple, a text -/
def iAnyD (te : TED) : TID := fun σ S R => te σ S fun d S1 => match srcD S1 d with
  | some (xs, keep) => (match d with
    | .str z => R xs keep S1
    | _ => xs.length ≤ sizeLine → R xs keep S1)
  | none => False
theorem di_any {X : Cx} {tg l : Expr} {tl : TED} (hl : DE X l tl) : DI X tg l (iAnyD tl) :=
  (pi_src hl).imp fun σ H R ⟨G, σd, S, Rd, rs, rh, t, p⟩ => ⟨G, σd, S, _, rs, rh, t, fun S1 d v H1 f1 rh1 q1 t1 => by
    split at t1
    · rename_i xs keep e
      obtain ⟨vs, h1, h2⟩ := srcD_at e rh1 q1 (srcD_keep e)
      refine ⟨skD d, vs, h1, fun hz => p S1 _ _ _ H1 f1 rh1 (fun G' S2 H2 m2 rh2 => itOk_v fun S3 H3 f3 rh3 k3 => srcD_at e rh3 ((q1.mv m2).fl f3) k3) ?_⟩
      split at t1
      · exact t1
      · rename_i ne
        refine t1 (hz.elim (fun e => ?_) fun hz => by rw [h2.length]; exact hz)
        cases d <;> first | cases e | skip
        exact (ne _ rfl).elim
    · exact t1.elim⟩
end PD
end

section
/-! PD21: methods of lists and texts, in, sum, [::-1]. -/
namespace PD
open PySem PySem.Spec PyProof.Rows L2
section
variable {X : Cx} {o e a b : Expr} {es : List Expr} {to te ta tb : TED} {tA : TAD} {name : Str} {apos cpos pos : Pos}
/-- a list, tracked or frozen -/
def isLst (S : HD) (d : D) : Prop := ∃ xs, asLst S d = some xs
/-- o.m(e, ..) of any list -/
def tMethA (rd : D → List D → HD → QD → Prop) (to : TED) (ta : TAD) : TED := fun σ S Q => to σ S fun x S1 => isLst S1 x ∧ ta σ S1 fun ds S2 => rd x ds S2 Q
theorem de_methA {id : String} {r : V → List V → Hp → VK → Prop} {rd : D → List D → HD → QD → Prop} (slot : Slot "list" name id) (hty : typeOf (.builtin id) = pure (.type "method_descriptor")) (hm : MtR X id r)
    (i : ∀ G S H d v ds vs Qd Q, RH X.K G S H → RD X.K G S H d v → RDs X.K G S H ds vs → rd d ds S Qd → Post X.K G S H Qd Q → r v vs H Q) (ho : DE X o to) (ha : DA X (e :: es) tA)
    (hbase : attributeBase o name X.env (eval o X.env) = eval o X.env := by rfl)
    (hfew : ((backTo cpos (starEach (e :: es) X.env)).all (fun x => !x.1) && (backToKw cpos (keywordEach [] X.env)).all (fun x => x.1.isSome)
      && decide ((e :: es).length + ([] : List Keyword).length + (if ([] : List Keyword).isEmpty then 0 else 1) < 30)) = true := by rfl)
    (hline : (apos.endLine == cpos.line) = true := by rfl) (hs : starEach (e :: es) X.env = (false, eval e X.env) :: starEach es X.env := by rfl) (hplain : (backTo cpos (starEach es X.env)).any (·.1) = false := by rfl) :
    DE X (.Call (.Attribute o name apos) (e :: es) [] cpos) (tMethA rd to tA) :=
  (pe_bm PySem.F.plainAttrs_list slot hty hm ho ha hbase hfew hline hs hplain).imp fun σ H Q ⟨G, σd, S, Qd, rs, rh, t, p⟩ => ⟨G, σd, S, _, rs, rh, t, fun S1 d v H1 f1 rh1 q1 ⟨⟨xs, hl⟩, t1⟩ => by
    obtain ⟨p1, vs, rfl, l1, _⟩ := asLst_ok rh1 hl q1
    exact ⟨.inl ⟨rfl, _, l1⟩, G, σd, S1, _, rs.fl f1, rh1, t1, fun S2 ds vs H2 f2 rh2 q2 t2 => i G S2 H2 _ _ ds vs _ _ rh2 (q1.fl f2) q2 t2 (p.fl (f1.trans f2))⟩⟩
theorem de_methA0 {id : String} {r : V → List V → Hp → VK → Prop} {rd : D → List D → HD → QD → Prop} (slot : Slot "list" name id) (hty : typeOf (.builtin id) = pure (.type "method_descriptor")) (hm : MtR X id r)
    (i : ∀ G S H d v Qd Q, RH X.K G S H → RD X.K G S H d v → rd d [] S Qd → Post X.K G S H Qd Q → r v [] H Q) (ho : DE X o to)
    (hbase : attributeBase o name X.env (eval o X.env) = eval o X.env := by rfl) (hline : (apos.endLine == cpos.line) = true := by rfl) : DE X (.Call (.Attribute o name apos) [] [] cpos) (tMethA rd to tNilD) :=
  (pe_bm0 PySem.F.plainAttrs_list slot hty hm ho hbase hline).imp fun σ H Q ⟨G, σd, S, Qd, rs, rh, t, p⟩ => ⟨G, σd, S, _, rs, rh, t, fun S1 d v H1 f1 rh1 q1 ⟨⟨xs, hl⟩, t1⟩ => by
    obtain ⟨p1, vs, rfl, l1, _⟩ := asLst_ok rh1 hl q1
    exact ⟨.inl ⟨rfl, _, l1⟩, i G S1 H1 _ _ _ _ rh1 q1 t1 (p.fl f1)⟩⟩
/-- xs.extend(ys) -/
def rExtD : D → List D → HD → QD → Prop := fun x ds S Q => match x, ds with
  | .ref a, [y] => (match S.hp a, asLst S y with
    | some (.lst xs), some zs => xs.length + zs.length ≤ sizeLine ∧ Q .non (S.set a (.lst (xs ++ zs)))
    | _, _ => False)
  | _, _ => False
theorem extD_ok : ∀ G S H d v ds vs Qd Q, RH X.K G S H → RD X.K G S H d v → RDs X.K G S H ds vs → rExtD d ds S Qd → Post X.K G S H Qd Q → (∃ l b xs zs, v = .ref l ∧ vs = [.ref b] ∧ H l = some (.lst xs) ∧ SqL X.K H b zs ∧ xs.length + zs.length ≤ sizeLine ∧ Q .non (upd H l (.lst (xs ++ zs)))) := by
  intro G S H d v ds vs Qd Q rh q1 q2 t p
  unfold rExtD at t
  split at t
  · rename_i a y
    split at t
    · rename_i xs zs e e2
      obtain ⟨_, _, ws, e1, r⟩ := rh.hp a _ e
      cases q1
      cases q2 with
      | @cons _ u _ _ q2 r2 =>
        cases r2
        obtain ⟨b, us, rfl, l2, rr⟩ := asLst_ok rh e2 q2
        obtain ⟨rh', f'⟩ := rh.writeL e (r.append rr)
        exact ⟨a, b, ws, us, rfl, rfl, e1, l2, by rw [← r.length, ← rr.length]; exact t.1, p _ _ _ _ f' rh' .non t.2⟩
    · exact t.elim
  · exact t.elim
/-- xs.pop() -/
def rPopD : D → List D → HD → QD → Prop := fun x _ S Q => match x with
  | .ref a => (match S.hp a with
    | some (.lst xs) => (match xs.getLast? with
      | some y => Q y (S.set a (.lst xs.dropLast))
      | none => False)
    | _ => False)
  | _ => False
theorem RDs.dropLast {K : PySem.W.Frag} {G : Addr → Prop} {S : HD} {H : Hp} {ds : List D} {vs : List V} (r : RDs K G S H ds vs) : RDs K G S H ds.dropLast vs.dropLast := by
  rw [List.dropLast_eq_take, List.dropLast_eq_take, r.length]
  exact r.take _
theorem de_pop (ho : DE X o to) (hbase : attributeBase o "pop" X.env (eval o X.env) = eval o X.env := by rfl) (hline : (apos.endLine == cpos.line) = true := by rfl) : DE X (.Call (.Attribute o "pop" apos) [] [] cpos) (tMethA rPopD to tNilD) :=
  de_methA0 PySem.F.slot_list_pop PySem.F.type_list_pop mt_pop (fun G S H d v Qd Q rh q1 t p => by
    unfold rPopD at t
    split at t
    · rename_i a
      split at t
      · rename_i xs e
        split at t
        · rename_i y e2
          obtain ⟨_, _, ws, e1, r⟩ := rh.hp a _ e
          cases q1
          rw [List.getLast?_eq_getElem?] at e2
          obtain ⟨u, h1, h2⟩ := r.get e2
          rw [r.length] at h1
          obtain ⟨rh', f'⟩ := rh.writeL e r.dropLast
          exact ⟨a, ws, u, rfl, rfl, e1, h1, p _ _ _ _ f' rh' (h2.fl f') t⟩
        · exact t.elim
      · exact t.elim
    · exact t.elim) ho hbase hline
/-! ### flat values -/
def flatD : D → Bool
  | .non => true
  | .bl _ => true
  | .int _ => true
  | .str _ => true
  | _ => false
def toV : D → V
  | .bl b => .bl b
  | .int i => .int i
  | .str x => .str x
  | _ => .non
def eqF (d e : D) : Bool := eqV (toV d) (toV e)
theorem flat_v {K : PySem.W.Frag} {G : Addr → Prop} {S : HD} {H : Hp} {d : D} {v : V} (q : RD K G S H d v) (h : flatD d = true) : v = toV d ∧ flatV v = true := by
  cases q <;> first | exact ⟨rfl, rfl⟩ | cases h
theorem flats_v {K : PySem.W.Frag} {G : Addr → Prop} {S : HD} {H : Hp} : ∀ {ds : List D} {vs : List V}, RDs K G S H ds vs → ds.all flatD = true → vs = ds.map toV ∧ vs.all flatV = true
  | _, _, .nil, _ => ⟨rfl, rfl⟩
  | _, _, .cons q r, h => by
    simp only [List.all_cons, Bool.and_eq_true] at h
    obtain ⟨h1, h2⟩ := flat_v q h.1
    obtain ⟨h3, h4⟩ := flats_v r h.2
    exact ⟨by rw [h1, h3]; rfl, by simp only [List.all_cons, h2, h4, Bool.and_self]⟩
/-- x in xs, flat -/
def inF (x : D) (xs : List D) : Bool := xs.any fun y => eqF y x
def rInD (neg : Bool) : R2D := fun x y S Q => match asSeq S y with
  | some xs => (flatD x = true ∧ xs.all flatD = true) ∧ Q (.bl (if neg then !inF x xs else inF x xs)) S
  | none => False
theorem in2 {K : PySem.W.Frag} (neg : Bool) : Op2 K (rIn K neg) (rInD neg) := fun G S H d1 d2 v1 v2 Qd Q rh q1 q2 t p => by
  unfold rInD at t
  split at t
  · rename_i xs e
    obtain ⟨⟨f1, f2⟩, t⟩ := t
    obtain ⟨a, ws, rfl, l, r⟩ := asSeq_ok rh e q2
    obtain ⟨e1, g1⟩ := flat_v q1 f1
    obtain ⟨e2, g2⟩ := flats_v r f2
    refine ⟨a, ws, rfl, l, g1, g2, p.here rh ?_ t⟩
    have e3 : inV v1 ws = inF d1 xs := by
      rw [e1, e2]
      unfold inV inF eqF
      rw [List.any_map]
      rfl
    rw [e3]
    exact .bl _
  · exact t.elim
theorem de_in (ha : DE X a ta) (hb : DE X b tb) (hm : behindInMarks .In b = false := by rfl) : DE X (.Compare a [.In] [b] pos) (tBin (rInD false) ta tb) := de_cmp op_in_seq (in2 false) ha hb hm
theorem de_notIn (ha : DE X a ta) (hb : DE X b tb) (hm : behindInMarks .NotIn b = false := by rfl) : DE X (.Compare a [.NotIn] [b] pos) (tBin (rInD true) ta tb) := de_cmp op_notIn_seq (in2 true) ha hb hm
theorem dt_in (ha : DE X a ta) (hb : DE X b tb) (hm : behindInMarks .In b = false := by rfl) : DT X (.Compare a [.In] [b] pos) (tTst (tBin (rInD false) ta tb)) := dt_cmp op_in_seq (in2 false) ha hb hm
theorem dt_notIn (ha : DE X a ta) (hb : DE X b tb) (hm : behindInMarks .NotIn b = false := by rfl) : DT X (.Compare a [.NotIn] [b] pos) (tTst (tBin (rInD true) ta tb)) := dt_cmp op_notIn_seq (in2 true) ha hb hm
/-- xs.index(y), flat: the first place -/
def ixF (x : D) : List D → Option Nat
  | [] => none
  | y :: ys => if eqF y x = true then some 0 else (ixF x ys).map (· + 1)
def rLixD : D → List D → HD → QD → Prop := fun x ds S Q => match ds with
  | [y] => (match asLst S x with
    | some xs => (flatD y = true ∧ xs.all flatD = true) ∧ (match ixF y xs with
      | some j => Q (.int (j : Nat)) S
      | none => False)
    | none => False)
  | _ => False
theorem ixF_some {x : D} : ∀ {xs : List D} {j : Nat}, ixF x xs = some j → ∃ z, xs[j]? = some z ∧ eqF z x = true ∧ ∀ m z', m < j → xs[m]? = some z' → eqF z' x = false
  | [], j, h => by cases h
  | y :: ys, j, h => by
    unfold ixF at h
    split at h
    · rename_i hy
      cases h
      exact ⟨y, rfl, hy, fun m z' hm => absurd hm (Nat.not_lt_zero m)⟩
    · rename_i hy
      obtain ⟨k, hk, rfl⟩ := Option.map_eq_some_iff.mp h
      obtain ⟨z, h1, h2, h3⟩ := ixF_some hk
      refine ⟨z, by simpa using h1, h2, fun m z' hm hz => ?_⟩
      cases m with
      | zero => simp at hz; subst hz; simpa using hy
      | succ m => exact h3 m z' (by omega) (by simpa using hz)
/-- sum(xs) of whole numbers -/
def intsOf : List D → Option (List Int)
  | [] => some []
  | .int i :: r => (intsOf r).map (i :: ·)
  | _ :: _ => none
theorem intsOf_eq : ∀ {ds : List D} {ns : List Int}, intsOf ds = some ns → ds = ns.map D.int
  | [], ns, h => by cases h; rfl
  | .int i :: r, ns, h => by
    simp only [intsOf] at h
    obtain ⟨ms, h1, rfl⟩ := Option.map_eq_some_iff.mp h
    rw [intsOf_eq h1]
    rfl
  | .non :: _, _, h => by cases h
  | .bl _ :: _, _, h => by cases h
  | .str _ :: _, _, h => by cases h
  | .tup _ :: _, _, h => by cases h
  | .lst _ :: _, _, h => by cases h
  | .dic _ :: _, _, h => by cases h
  | .ref _ :: _, _, h => by cases h
  | .ty _ :: _, _, h => by cases h
  | .deck :: _, _, h => by cases h
theorem intsOf_map (ns : List Int) : intsOf (ns.map D.int) = some ns := by
  induction ns with
  | nil => rfl
  | cons n ns ih => simp [intsOf, ih]
def rSumD : SpD := fun ds S Q => match ds with
  | [d] => (match asLst S d with
    | some xs => (match intsOf xs with
      | some ns => Q (.int ns.sum) S
      | none => False)
    | none => False)
  | _ => False
theorem call_sumRD (hc : X.calm = true := by rfl) : CallRD X (.builtin "sum") rSumD := .of (cr_sum hc) fun G S H ds vs Qd Q rh rd t p => by
  unfold rSumD at t
  split at t
  · split at t
    · rename_i xs e
      split at t
      · rename_i ns e2
        cases rd with
        | cons q r =>
          cases r
          obtain ⟨a, ws, rfl, l, r⟩ := asLst_ok rh e q
          rw [intsOf_eq e2] at r
          rw [rds_ints r] at l
          exact ⟨a, ns, rfl, l, p.here rh (.int _) t⟩
      · exact t.elim
    · exact t.elim
  · exact t.elim
end
end PD
end

section
/-! PD22: extend by any list, index, join, [::-1] of lists. -/
namespace PD
open PySem PySem.Spec PyProof.Rows L2
open AutoSeq1 (wpAny_loadPart')
theorem meets_extB (l : Addr) (items : Array Value) (n : Nat) (b : Addr) (items2 : Array Value) (n2 : Nat) (dd : Option Addr) (sl : Array (Option Value)) (hc0 : ¬(!items.isEmpty && Builtin.List.listTooLong (items.size + items2.size)) = true) (hc1 : items.size ≤ sizeLine) (hs2 : items.size + items2.size ≤ sizeLine + 1) :
    Meets (Builtin.«list.extend» ⟨[.ref l, .ref b], []⟩) (fun _ R s => s.heap.get? l = some { cls := .type "list", dict := none, data := .seq items n, slots := #[] } ∧ s.heap.get? b = some { cls := .type "list", dict := dd, data := .seq items2 n2, slots := sl } ∧
      R (.ok (.ret Value.none)) { s with heap := s.heap.update l (Obj.mapSeq fun x => x ++ items2), toks := s.toks }) :=
  .of_wp fun prog w A R s h => by
    obtain ⟨hp, g, d, tk, os⟩ := s
    obtain ⟨hl, hb, h⟩ := h
    have f1 := PySem.AutoSeq1.idx_int
    have f2 := PySem.AutoSeq1.sub_tuple_tuple
    have f3 := PySem.AutoSeq1.sub_list_list
    have f4 := PySem.AutoSeq1.sub_tuple_list
    have f5 := PySem.AutoSeq1.sub_list_tuple
    have hz' : (items ++ items2).size ≤ sizeLine + 1 := by rw [Array.size_append]; exact hs2
    wp_walk using (wpAny_updateSeq hl rfl (hz := hc1) (_hz' := hz')), wpAny_loadPart' hl, wpAny_loadPart' hb
    exact ⟨_, rfl, h⟩
section
variable {X : Cx} {o e a b : Expr} {to te ta tb : TED} {apos cpos pos : Pos}
def rExtS (K : PySem.W.Frag) : V → List V → Hp → VK → Prop := fun v vs H Q => ∃ l b xs zs, v = .ref l ∧ vs = [.ref b] ∧ H l = some (.lst xs) ∧ SqL K H b zs ∧ xs.length + zs.length ≤ sizeLine ∧ Q .non (upd H l (.lst (xs ++ zs)))
theorem mt_extS : MtR X "list.extend" (rExtS X.K) := by
  intro pins s σ H x vs v us Q I rx rv ⟨l, b, xs, zs, e1, e2, hH, hB, hz, q⟩
  subst e1 e2
  cases rx
  obtain ⟨u, rfl, ru⟩ := rv.one
  cases ru
  obtain ⟨z, its, n, r, hl, e⟩ := I.lstM hH
  obtain ⟨its2, r2, ⟨⟨cls, dd, data, sl⟩, n2, ho, hc, hdn, hd⟩, hlen⟩ := I.list hB
  simp only at hc hd
  subst hc hd
  have hl2 := r2.length
  have hsz : its.toArray.size + its2.toArray.size ≤ sizeLine := by rw [List.size_toArray, List.size_toArray]; omega
  have hlong : ¬ (!its.toArray.isEmpty && Builtin.List.listTooLong (its.toArray.size + its2.toArray.size)) = true := by
    rw [notLongL hsz, Bool.and_false]
    decide
  exact call_meets PySem.F.slot_list_extend ⟨_, e, rfl⟩ PySem.F.entry_list_extend (PySem.F.args_list_extend_2 _ _) (meets_extB l its.toArray n b its2.toArray n2 dd sl hlong (by omega) (by omega))
    ⟨e, ho, .non, _, I.lset (its' := its ++ its2) hH e (by simp) (r.append r2) (by rw [List.length_append]; omega), rfl, q⟩
theorem de_extend (ho : DE X o to) (ha : DA X [e] (tConsD te tNilD)) (hbase : attributeBase o "extend" X.env (eval o X.env) = eval o X.env := by rfl)
    (hfew : ((backTo cpos (starEach (e :: []) X.env)).all (fun x => !x.1) && (backToKw cpos (keywordEach [] X.env)).all (fun x => x.1.isSome)
      && decide ((e :: ([] : List Expr)).length + ([] : List Keyword).length + (if ([] : List Keyword).isEmpty then 0 else 1) < 30)) = true := by rfl)
    (hline : (apos.endLine == cpos.line) = true := by rfl) (hs : starEach (e :: []) X.env = (false, eval e X.env) :: starEach [] X.env := by rfl) : DE X (.Call (.Attribute o "extend" apos) [e] [] cpos) (tMethA rExtD to (tConsD te tNilD)) :=
  de_methA PySem.F.slot_list_extend PySem.F.type_list_extend mt_extS extD_ok ho ha hbase hfew hline hs rfl
theorem de_lindex (ho : DE X o to) (ha : DA X [e] (tConsD te tNilD)) (hbase : attributeBase o "index" X.env (eval o X.env) = eval o X.env := by rfl)
    (hfew : ((backTo cpos (starEach (e :: []) X.env)).all (fun x => !x.1) && (backToKw cpos (keywordEach [] X.env)).all (fun x => x.1.isSome)
      && decide ((e :: ([] : List Expr)).length + ([] : List Keyword).length + (if ([] : List Keyword).isEmpty then 0 else 1) < 30)) = true := by rfl)
    (hline : (apos.endLine == cpos.line) = true := by rfl) (hs : starEach (e :: []) X.env = (false, eval e X.env) :: starEach [] X.env := by rfl) : DE X (.Call (.Attribute o "index" apos) [e] [] cpos) (tMethA rLixD to (tConsD te tNilD)) :=
  de_methA PySem.F.slot_list_index PySem.F.type_list_index mt_index (fun G S H d v ds vs Qd Q rh q1 q2 t p => by
    unfold rLixD at t
    split at t
    · rename_i y
      split at t
      · rename_i xs e
        obtain ⟨⟨f1, f2⟩, t⟩ := t
        split at t
        · rename_i j ej
          obtain ⟨z, z1, z2, z3⟩ := ixF_some ej
          obtain ⟨p1, ws, rfl, l, r⟩ := asLst_ok rh e q1
          cases q2 with
          | cons q2 r2 =>
            cases r2
            obtain ⟨e1, g1⟩ := flat_v q2 f1
            obtain ⟨e2, g2⟩ := flats_v r f2
            subst e1 e2
            refine ⟨p1, _, _, j, toV z, rfl, rfl, l, g1, g2, by rw [List.getElem?_map, z1]; rfl, z2, fun m z' hm hz => ?_, p.here rh (.int _) t⟩
            rw [List.getElem?_map] at hz
            obtain ⟨w, hw, rfl⟩ := Option.map_eq_some_iff.mp hz
            exact z3 m w hm hw
        · exact t.elim
      · exact t.elim
    · exact t.elim) ho ha hbase hfew hline hs rfl
/-! ### texts -/
/-- o.m(e) of a text -/
def tMethS (rd : D → D → HD → QD → Prop) (to te : TED) : TED := fun σ S Q => to σ S fun x S1 => (∃ z, x = .str z) ∧ te σ S1 fun y S2 => rd x y S2 Q
def strsOf : List D → Option (List Str)
  | [] => some []
  | .str i :: r => (strsOf r).map (i :: ·)
  | _ :: _ => none
theorem strsOf_map (ns : List Str) : strsOf (ns.map D.str) = some ns := by
  induction ns with
  | nil => rfl
  | cons n ns ih => simp [strsOf, ih]
theorem strsOf_eq : ∀ {ds : List D} {ns : List Str}, strsOf ds = some ns → ds = ns.map D.str
  | [], ns, h => by cases h; rfl
  | .str i :: r, ns, h => by
    simp only [strsOf] at h
    obtain ⟨ms, h1, rfl⟩ := Option.map_eq_some_iff.mp h
    rw [strsOf_eq h1]
    rfl
  | .non :: _, _, h => by cases h
  | .bl _ :: _, _, h => by cases h
  | .int _ :: _, _, h => by cases h
  | .tup _ :: _, _, h => by cases h
  | .lst _ :: _, _, h => by cases h
  | .dic _ :: _, _, h => by cases h
  | .ref _ :: _, _, h => by cases h
  | .ty _ :: _, _, h => by cases h
  | .deck :: _, _, h => by cases h
theorem rds_strs {K : PySem.W.Frag} {G : Addr → Prop} {S : HD} {H : Hp} : ∀ {ns : List Str} {vs : List V}, RDs K G S H (ns.map D.str) vs → vs = ns.map V.str
  | [], _, .nil => rfl
  | n :: ns, _, .cons q r => by cases q; rw [rds_strs r]; rfl
def rJoinD (x y : D) (S : HD) (Q : QD) : Prop := match x, asSeq S y with
  | .str a, some xs => (match strsOf xs with
    | some ys => (ys.map (·.length)).sum + ys.length * a.length ≤ 16777216 ∧ Q (.str (Txt.join a ys)) S
    | none => False)
  | _, _ => False
theorem de_join (ho : DE X o to) (he : DE X e te) (hs : starEach [e] X.env = [(false, eval e X.env)] := by rfl) (hbase : attributeBase o "join" X.env (eval o X.env) = eval o X.env := by rfl) (hline : (apos.endLine == pos.line) = true := by rfl) :
    DE X (.Call (.Attribute o "join" apos) [e] [] pos) (tMethS rJoinD to te) :=
  (pe_join ho he hs hbase hline).imp fun σ H Q ⟨G, σd, S, Qd, rs, rh, t, p⟩ => ⟨G, σd, S, _, rs, rh, t, fun S1 d v H1 f1 rh1 q1 ⟨⟨z, ez⟩, t1⟩ => by
    subst ez
    cases q1
    refine ⟨⟨z, rfl⟩, G, σd, S1, _, rs.fl f1, rh1, t1, fun S2 d2 v2 H2 f2 rh2 q2 t2 => ?_⟩
    unfold rJoinD at t2
    split at t2
    · rename_i a xs e1 e2
      cases e1
      split at t2
      · rename_i ys e3
        obtain ⟨p1, ws, rfl, l, r⟩ := asSeq_ok rh2 e2 q2
        rw [strsOf_eq e3] at r
        rw [rds_strs r] at l
        exact ⟨z, p1, ys, rfl, rfl, l, t2.1, p S2 _ _ H2 (f1.trans f2) rh2 (.str _) t2.2⟩
      · exact t2.elim
    · exact t2.elim⟩
/-- s.index(t), found -/
def rSixD (x y : D) (S : HD) (Q : QD) : Prop := match x, y with
  | .str a, .str b => (match Txt.index0 a b with
    | some k => Q (.int (k : Nat)) S
    | none => False)
  | _, _ => False
theorem mt_sindex : MtR X "str.index" (fun x xs H Q => ∃ (a b : Str) (k : Nat), x = .str a ∧ xs = [.str b] ∧ Txt.index0 a b = some k ∧ Q (.int (k : Nat)) H) := by
  intro pins s σ H x xs v us Q I rx rs ⟨a, b, k, e1, e2, hk, q⟩
  subst e1 e2
  obtain ⟨t, rfl⟩ := rx
  cases rs with
  | cons r1 rs =>
    cases rs
    obtain ⟨u, rfl⟩ := r1
    cases h : Builtin.Str.occurrences a b 0 a.length 1 with
    | nil => unfold Txt.index0 at hk; rw [h] at hk; cases hk
    | cons j rest =>
      unfold Txt.index0 at hk
      rw [h] at hk
      cases hk
      exact PySem.SC.index h ⟨.int (k : Nat), H, I.tok _, ⟨_, rfl⟩, q⟩
theorem de_sindex (ho : DE X o to) (he : DE X e te) (hs : starEach [e] X.env = [(false, eval e X.env)] := by rfl) (hbase : attributeBase o "index" X.env (eval o X.env) = eval o X.env := by rfl) (hline : (apos.endLine == pos.line) = true := by rfl) :
    DE X (.Call (.Attribute o "index" apos) [e] [] pos) (tMethS rSixD to te) :=
  (pe_m1 PySem.F.slot_str_index PySem.F.type_str_index mt_sindex ho he hs hbase hline).imp fun σ H Q ⟨G, σd, S, Qd, rs, rh, t, p⟩ => ⟨G, σd, S, _, rs, rh, t, fun S1 d v H1 f1 rh1 q1 ⟨⟨z, ez⟩, t1⟩ => by
    subst ez
    cases q1
    refine ⟨⟨z, rfl⟩, G, σd, S1, _, rs.fl f1, rh1, t1, fun S2 d2 v2 H2 f2 rh2 q2 t2 => ?_⟩
    unfold rSixD at t2
    split at t2
    · rename_i a b e1
      cases e1
      split at t2
      · rename_i k hk
        cases q2
        exact ⟨z, b, k, rfl, rfl, hk, p S2 _ _ H2 (f1.trans f2) rh2 (.int _) t2⟩
      · exact t2.elim
    · exact t2.elim⟩
/-- xs[::-1] -/
def tRevLD (te : TED) : TED := fun σ S Q => te σ S fun d S1 => match asLst S1 d with
  | some xs => Q (.lst xs.reverse) S1
  | none => False
theorem de_revL {k : Nat} {p1 p2 p3 : Pos} (he : DE X e te) : DE X (.Subscript e (.Slice none none (some (.UnaryOp .USub (.Constant (.int 1) k p1) p2)) p3) pos) (tRevLD te) :=
  (pe_revL he).imp fun σ H Q ⟨G, σd, S, Qd, rs, rh, t, p⟩ => ⟨G, σd, S, _, rs, rh, t, fun S1 d v H1 f1 rh1 q1 t1 => by
    split at t1
    · rename_i xs e
      obtain ⟨p1, ws, rfl, l, r⟩ := asLst_ok rh1 e q1
      exact ⟨p1, ws, rfl, l, fun q hq => (p.fl f1).newL rh1 r.rev t1 hq⟩
    · exact t1.elim⟩
end
end PD
end

section
/-! PD23: dicts with whole numbers and texts as keys. -/
namespace PD
open PySem PySem.Spec PyProof.Rows L2
def keyOf : D → Option Key
  | .int i => some (.inl i)
  | .str x => some (.inr x)
  | _ => none
theorem keyOf_kD (k : Key) : keyOf (kD k) = some k := by cases k <;> rfl
theorem keyOf_eq {d : D} {k : Key} (h : keyOf d = some k) : d = kD k := by
  cases d <;> first | cases h | skip
  all_goals rfl
def getK : List (D × D) → Key → Option D
  | [], _ => none
  | (d, v) :: r, k => if keyOf d = some k then some v else getK r k
def hasK (kds : List (D × D)) (k : Key) : Bool := (getK kds k).isSome
def putD (kds : List (D × D)) (k : Key) (v : D) : List (D × D) :=
  if hasK kds k = true then kds.map (fun kv => if keyOf kv.1 = some k then (kv.1, v) else kv) else kds ++ [(kD k, v)]
def asDic (S : HD) : D → Option (List (D × D))
  | .dic kds => some kds
  | .ref a => (match S.hp a with
    | some (.dic kds) => some kds
    | _ => none)
  | _ => none
section
variable {K : PySem.W.Frag} {G : Addr → Prop} {S : HD} {H : Hp}
theorem asDic_ok (rh : RH K G S H) {d : D} {v : V} {kds : List (D × D)} (h : asDic S d = some kds) (q : RD K G S H d v) : ∃ p kvs, v = .ref p ∧ Rd H p (.dK kvs) ∧ RDk K G S H kds kvs := by
  cases q with
  | dic h1 r => cases h; exact ⟨_, _, rfl, h1.2, r⟩
  | ref a =>
    simp only [asDic] at h
    split at h
    · rename_i ys e
      cases h
      obtain ⟨_, _, kvs, e1, r⟩ := rh.hp a _ e
      exact ⟨a, kvs, rfl, .inl e1, r⟩
    · cases h
  | _ => cases h
theorem key_v {d : D} {v : V} {k : Key} (h : keyOf d = some k) (q : RD K G S H d v) : v = kV k := by
  cases q <;> first | cases h | skip
  all_goals rfl
theorem rdk_get : ∀ {kds : List (D × D)} {kvs : List (Key × V)} (k : Key), RDk K G S H kds kvs → (getK kds k = none ∧ valV kvs k = none) ∨ ∃ d v, getK kds k = some d ∧ valV kvs k = some v ∧ RD K G S H d v
  | _, _, k, .nil => .inl ⟨rfl, rfl⟩
  | _, _, k, @RDk.cons _ _ _ _ k' d v kds kvs h r => by
    by_cases e : k' = k
    · subst e
      exact .inr ⟨d, v, by simp [getK, keyOf_kD], valV_pos rfl, h⟩
    · have e1 : getK ((kD k', d) :: kds) k = getK kds k := by
        simp only [getK, keyOf_kD]
        exact if_neg fun q => e (Option.some.inj q)
      have e2 : valV ((k', v) :: kvs) k = valV kvs k := valV_neg e
      rw [e1, e2]
      exact rdk_get k r
theorem RDk.append : ∀ {a b : List (D × D)} {c d : List (Key × V)}, RDk K G S H a c → RDk K G S H b d → RDk K G S H (a ++ b) (c ++ d)
  | _, _, _, _, .nil, s => s
  | _, _, _, _, .cons h r, s => .cons h (r.append s)
theorem rdk_map {k : Key} {x : D} {y : V} (q : RD K G S H x y) : ∀ {kds : List (D × D)} {kvs : List (Key × V)}, RDk K G S H kds kvs →
    RDk K G S H (kds.map fun kv => if keyOf kv.1 = some k then (kv.1, x) else kv) (kvs.map fun kv => if kv.1 = k then (kv.1, y) else kv)
  | _, _, .nil => .nil
  | _, _, @RDk.cons _ _ _ _ k' d v kds kvs h r => by
    simp only [List.map_cons, keyOf_kD]
    by_cases e : k' = k
    · subst e
      simp only [if_true]
      exact .cons q (rdk_map q r)
    · rw [if_neg fun z => e (Option.some.inj z), if_neg e]
      exact .cons h (rdk_map q r)
theorem rdk_len : ∀ {kds : List (D × D)} {kvs : List (Key × V)}, RDk K G S H kds kvs → kds.length = kvs.length
  | _, _, .nil => rfl
  | _, _, .cons _ r => by simp [rdk_len r]
theorem rdk_put {kds : List (D × D)} {kvs : List (Key × V)} (k : Key) {x : D} {y : V} (q : RD K G S H x y) (r : RDk K G S H kds kvs) : RDk K G S H (putD kds k x) (putK kvs k y) := by
  unfold putD putK hasK
  rw [valV_any]
  rcases rdk_get k r with ⟨e1, e2⟩ | ⟨d, v, e1, e2, _⟩
  · rw [e1, e2]
    exact r.append (.cons q .nil)
  · rw [e1, e2]
    exact rdk_map q r
end
/-! ### in, [] and []= of any container -/
/-- x in y: a dict's keys, a sequence's flat items, a text's parts -/
def rInX (neg : Bool) : R2D := fun x y S Q => match asDic S y, keyOf x with
  | some kds, some k => Q (.bl (if neg then !hasK kds k else hasK kds k)) S
  | _, _ => rInD neg x y S Q
section
variable {X : Cx} {o i e a b : Expr} {to ti ta tb : TED} {pos pos' : Pos}
def rDIn (neg : Bool) : R2 := fun x y H Q => ∃ a ov, y = .ref a ∧ DGet H a x ov ∧ Q (.bl (if neg then !ov.isSome else ov.isSome)) H
theorem op_inD (hu : X.A.units + 1 < cLine) : OpR X (compareOp .In) (rDIn false) := by
  intro pins s σ H x y v u Q I rx ry ⟨a, ov, e, g, q⟩
  subst e
  obtain rfl : u = Value.ref a := ry
  exact d_in hu I g rx fun s3 I3 => ⟨.bl ov.isSome, H, I3, rfl, q⟩
theorem op_notInD (hu : X.A.units + 1 < cLine) : OpR X (compareOp .NotIn) (rDIn true) := by
  intro pins s σ H x y v u Q I rx ry ⟨a, ov, e, g, q⟩
  subst e
  obtain rfl : u = Value.ref a := ry
  exact d_notIn hu I g rx fun s3 I3 => ⟨.bl (!ov.isSome), H, I3, rfl, q⟩
theorem inX2 {K : PySem.W.Frag} (neg : Bool) : Op2 K (fun x y H Q => rIn K neg x y H Q ∨ rDIn neg x y H Q) (rInX neg) := fun G S H d1 d2 v1 v2 Qd Q rh q1 q2 t p => by
  unfold rInX at t
  split at t
  · rename_i kds k e1 e2
    obtain ⟨a, kvs, rfl, r0, r⟩ := asDic_ok rh e1 q2
    refine .inr ⟨a, valV kvs k, rfl, .inl ⟨kvs, k, r0, key_v e2 q1, rfl⟩, p.here rh ?_ t⟩
    have e3 : (valV kvs k).isSome = hasK kds k := by
      unfold hasK
      rcases rdk_get k r with ⟨z1, z2⟩ | ⟨d, v, z1, z2, _⟩ <;> rw [z1, z2] <;> rfl
    rw [e3]
    exact .bl _
  · exact .inl (in2 neg G S H d1 d2 v1 v2 Qd Q rh q1 q2 t p)
theorem de_inX {k : Nat} (hr : RoomG k X.A) (ha : DE X a ta) (hb : DE X b tb) (hm : behindInMarks .In b = false := by rfl) : DE X (.Compare a [.In] [b] pos) (tBin (rInX false) ta tb) := de_cmp (op_in_seq.or (op_inD hr.un1)) (inX2 false) ha hb hm
theorem de_notInX {k : Nat} (hr : RoomG k X.A) (ha : DE X a ta) (hb : DE X b tb) (hm : behindInMarks .NotIn b = false := by rfl) : DE X (.Compare a [.NotIn] [b] pos) (tBin (rInX true) ta tb) := de_cmp (op_notIn_seq.or (op_notInD hr.un1)) (inX2 true) ha hb hm
theorem dt_inX {k : Nat} (hr : RoomG k X.A) (ha : DE X a ta) (hb : DE X b tb) (hm : behindInMarks .In b = false := by rfl) : DT X (.Compare a [.In] [b] pos) (tTst (tBin (rInX false) ta tb)) := dt_cmp (op_in_seq.or (op_inD hr.un1)) (inX2 false) ha hb hm
theorem dt_notInX {k : Nat} (hr : RoomG k X.A) (ha : DE X a ta) (hb : DE X b tb) (hm : behindInMarks .NotIn b = false := by rfl) : DT X (.Compare a [.NotIn] [b] pos) (tTst (tBin (rInX true) ta tb)) := dt_cmp (op_notIn_seq.or (op_notInD hr.un1)) (inX2 true) ha hb hm
/-- d[k] -/
def rDIx : R2 := fun x y H Q => ∃ a v, x = .ref a ∧ DGet H a y (some v) ∧ Q v H
theorem ix_dic (hu : X.A.units + 1 < cLine) : IxR X rDIx := by
  intro value slice pins s σ H x y v u Q I rx ry ⟨a, w, e, g, q⟩ hs
  subst e
  obtain rfl : v = Value.ref a := rx
  exact tail_any (ops := [.ref a, u]) (dict_typeIs I g) PySem.F.slot_dict_getitem.lookup (d_getItem hu I g ry fun w' s3 I3 rw' => ⟨w, H, I3, rw', q⟩) hs
def rIxX : R2D := fun x y S Q => match asDic S x, keyOf y with
  | some kds, some k => (match getK kds k with
    | some v => Q v S
    | none => False)
  | _, _ => rIxD x y S Q
theorem ixX2 {K : PySem.W.Frag} : Op2 K (fun x y H Q => rIx K x y H Q ∨ rDIx x y H Q) rIxX := fun G S H d1 d2 v1 v2 Qd Q rh q1 q2 t p => by
  unfold rIxX at t
  split at t
  · rename_i kds k e1 e2
    obtain ⟨a, kvs, rfl, r0, r⟩ := asDic_ok rh e1 q1
    rcases rdk_get k r with ⟨z1, z2⟩ | ⟨d, v, z1, z2, z3⟩
    · rw [z1] at t; exact t.elim
    · rw [z1] at t
      exact .inr ⟨a, v, rfl, .inl ⟨kvs, k, r0, key_v e2 q2, z2.symm⟩, p.here rh z3 t⟩
  · exact .inl (ix2 G S H d1 d2 v1 v2 Qd Q rh q1 q2 t p)
theorem de_ixX {k : Nat} (hr : RoomG k X.A) (ha : DE X a ta) (hb : DE X b tb) (hs : PlainIx b := by exact fun _ _ => rfl) : DE X (.Subscript a b pos) (tBin rIxX ta tb) := (pe_ix (ix_seq.or (ix_dic hr.un1)) ha hb hs).imp (up_bin ixX2)
/-- o[i] = v of a tracked list or dict -/
def rSetX (o i v : D) (S : HD) (Q : HD → Prop) : Prop := match o with
  | .ref a => (match S.hp a, keyOf i with
    | some (.dic kds), some k => kds.length < 16000000 ∧ Q (S.set a (.dic (putD kds k v)))
    | some (.lst xs), some (.inl j) => (match ixN xs.length j with
      | some n => Q (S.set a (.lst (xs.set n v)))
      | none => False)
    | _, _ => False)
  | _ => False
def gSubX (to ti : TED) : TGD := fun v σ S Q => to σ S fun o S1 => ti σ S1 fun i S2 => rSetX o i v S2 fun S3 => Q σ S3
theorem RH.writeD {K : PySem.W.Frag} {G : Addr → Prop} {S : HD} {H : Hp} (rh : RH K G S H) {a : Addr} {xs ys : List (D × D)} {ws : List (Key × V)} (h : S.hp a = some (.dic xs)) (r : RDk K G S H ys ws) : RH K G (S.set a (.dic ys)) (upd H a (.dK ws)) ∧ FL S H (S.set a (.dic ys)) (upd H a (.dK ws)) := by
  have m : Mv G S H G (S.set a (.dic ys)) (upd H a (.dK ws)) := ⟨fun b o e z => by
    have ne : b ≠ a := fun q => by rw [← q, z.1] at h; cases h
    exact ⟨⟨by rw [HD.set_ne ne]; exact z.1, z.2.1, z.2.2⟩, by rw [upd_ne ne]; exact e⟩, fun _ e => e⟩
  exact rh.write h ⟨ws, upd_same, r.mv m⟩
theorem PSet.or {t1 t2 : TSet} (h1 : PSet X t1) (h2 : PSet X t2) : PSet X (fun o i v H Q => t1 o i v H Q ∨ t2 o i v H Q) := fun pins s σ H o i v ov iv u Q I ro ri rv h =>
  h.elim (h1 pins s σ H o i v ov iv u Q I ro ri rv) (h2 pins s σ H o i v ov iv u Q I ro ri rv)
theorem dg_subX {k : Nat} (hr : RoomG k X.A) (ho : DE X o to) (hi : DE X i ti)
    (ha : ∀ v, assign (.Subscript o i pos) X.env v = (do
      let ov ← holding [v] (eval o X.env)
      let iv ← holding [v, ov] (eval i X.env)
      standAt pos
      holding [v, ov, iv] (setItem ov iv v)
      release [v, ov, iv] []) := by intro _; rfl) : DG X (.Subscript o i pos) (gSubX to ti) :=
  (pg_sub ho hi (PSet.or set_list (set_dict hr.un1)) ha).imp fun v σ H Q ⟨G, σd, S, d, Qd, rs, rh, q, t, p⟩ =>
    ⟨G, σd, S, _, rs, rh, t, fun S1 d1 v1 H1 f1 rh1 q1 t1 => ⟨G, σd, S1, _, rs.fl f1, rh1, t1, fun S2 d2 v2 H2 f2 rh2 q2 t2 => by
      unfold rSetX at t2
      split at t2
      · rename_i a
        split at t2
        · rename_i kds k e ek
          cases q1
          obtain ⟨_, _, ws, e1, r⟩ := rh2.hp _ _ e
          obtain ⟨rh', f'⟩ := rh2.writeD e (rdk_put k (q.fl (f1.trans f2)) r)
          refine .inr ⟨a, _, rfl, .inl ⟨ws, k, e1, key_v ek q2, ?_, rfl⟩, p _ _ _ _ (f1.trans (f2.trans f')) rh' (rs.fl (f1.trans (f2.trans f'))) t2.2⟩
          have := rdk_len r
          have : (sizeLine : Nat) = 16777216 := rfl
          omega
        · rename_i xs j e ek
          split at t2
          · rename_i n en
            have e2 := keyOf_eq ek
            subst e2
            cases q1
            cases q2
            obtain ⟨_, _, ws, e1, r⟩ := rh2.hp _ _ e
            obtain ⟨rh', f'⟩ := rh2.writeL e (r.set (q.fl (f1.trans f2)) n)
            exact .inl ⟨a, ws, j, n, rfl, rfl, e1, by rw [← r.length]; exact en, p _ _ _ _ (f1.trans (f2.trans f')) rh' (rs.fl (f1.trans (f2.trans f'))) t2⟩
          · exact t2.elim
        · exact t2.elim
      · exact t2.elim⟩⟩
/-- {} that is to change -/
def tDicR : TED := fun _ S Q => ∀ p, S.hp p = none → Q (.ref p) (S.set p (.dic []))
theorem de_dicR : DE X (.Dict [] [] pos) tDicR := pe_dnewK.imp fun σ H Q ⟨G, σd, S, Qd, rs, rh, t, p⟩ => fun q hq => by
  obtain ⟨r', f'⟩ := rh.newR (o := .dic []) (ho := .dK []) hq ⟨[], upd_same, .nil⟩
  exact p _ _ _ _ f' r' (.ref q) (t q (rh.fresh hq).1)
end
/-! ### {k: v for ..}, frozen -/
def dcD (g : TGD) (tt : TTD) (tk tv : TED) (σ : SD) (keep : HD → Prop) (Q : List (D × D) → HD → Prop) : List D → List (D × D) → HD → Prop
  | [], acc, S => keep S ∧ Q acc S
  | d :: r, acc, S => keep S ∧ g d σ S fun σ2 S2 => tt σ2 S2 fun b S3 => if b = true then tk σ2 S3 fun y S4 => tv σ2 S4 fun z S5 => match keyOf y with
      | some k => dcD g tt tk tv σ keep Q r (putD acc k z) S5
      | none => False
    else dcD g tt tk tv σ keep Q r acc S3
def tDcV (ti : TID) (g : TGD) (tt : TTD) (tk tv : TED) (vs : List Nat) : TED := fun σ S Q => ti σ S fun xs keep S1 => xs.length ≤ sizeLine ∧ dcD g tt tk tv (wipeD σ vs) keep (fun acc S2 => Q (.dic acc) S2) xs [] S1
theorem putD_len (acc : List (D × D)) (k : Key) (z : D) : (putD acc k z).length ≤ acc.length + 1 := by
  unfold putD
  split <;> simp
section
variable {X : Cx} {kx vx tg iter : Expr} {ifs : List Expr} {scope : Scope} {own : List (Str × Nat)} {pos : Pos} {ti : TID} {g : TGD} {tt : TTD} {tk tv : TED}
theorem dc_up {K : PySem.W.Frag} {vs : List Nat} {G : Addr → Prop} {S1 : HD} {H1 : Hp} {σd : SD} {σ : L2.St} {J : It} {xs : List D} {keep : HD → Prop} {Qd : List (D × D) → HD → Prop} {Q : VK}
    (rs1 : RSl K G S1 H1 σd σ) (rh1 : RH K G S1 H1) (hJ : ∀ G' S2 H2, Mv G S1 H1 G' S2 H2 → RH K G' S2 H2 → ItOk K G' S2 H2 J xs keep) (hz : xs.length ≤ sizeLine)
    (t : dcD g tt tk tv (wipeD σd vs) keep Qd xs [] S1) {p : Addr} (hp : H1 p = none)
    (fin : ∀ S2 H2 accd acc, FL S1 H1 S2 H2 → RH K (Res G p) S2 H2 → H2 p = some (.dK acc) → RDk K (Res G p) S2 H2 accd acc → Qd accd S2 → Q (.ref p) H2) :
    ∃ W : Nat → Nat → Hp → Prop, (∃ m, W 0 m (upd H1 p (.dK []))) ∧ ∀ i m H, W i m H →
      (J.stop i H ∧ Q (.ref p) H) ∨ (J.go i H ∧ ∃ Nx : Hp → Prop, (∀ H', Nx H' → ∃ m', m' < m ∧ W (i + 1) m' H') ∧ ∀ x H', J.yld i H x H' → upGw K vs g x (wipe σ vs) H' fun σ2 H2 => wipe σ2 vs = wipe σ vs ∧ upT K tt σ2 H2 fun b H3 =>
        if b = true then up K tk σ2 H3 fun y H4 => up K tv σ2 H4 fun z H5 => ∃ kvs k, y = kV k ∧ H5 p = some (.dK kvs) ∧ kvs.length < sizeLine ∧ Nx (upd H5 p (.dK (putK kvs k z))) else Nx H3) := by
  have wipe2 : ∀ (us : List Nat) (τ : L2.St), wipe (wipe τ us) us = wipe τ us := by
    intro us τ
    have key : ∀ (ws : List Nat) (τ : L2.St), (∀ u ∈ us, u ∈ ws) → wipe (wipe τ us) ws = wipe τ ws := by
      induction us with
      | nil => intro ws τ _; rfl
      | cons u us ih =>
        intro ws τ h
        show wipe ((wipe τ us).set u none) ws = _
        rw [wipe_set (h u List.mem_cons_self)]
        exact ih ws τ fun v hv => h v (List.mem_cons_of_mem _ hv)
    exact key us τ fun _ h => h
  refine ⟨fun i m H => m = xs.length - i ∧ i ≤ xs.length ∧ ∃ S2 accd acc, FL S1 H1 S2 H ∧ RH K (Res G p) S2 H ∧ H p = some (.dK acc) ∧ RDk K (Res G p) S2 H accd acc ∧ RSl K (Res G p) S2 H (wipeD σd vs) (wipe σ vs) ∧ acc.length ≤ i ∧ dcD g tt tk tv (wipeD σd vs) keep Qd (xs.drop i) accd S2,
    ⟨xs.length, by simp, Nat.zero_le _, S1, [], [], (Grow.upd hp).fl, rh1.res hp _, upd_same, .nil, (rs1.wipe vs).mv (res_in hp), Nat.zero_le _, t⟩, ?_⟩
  rintro i m H ⟨rfl, hi, S2, accd, acc, f2, rh2, hacc, racc, rsl2, hlen, t2⟩
  have ok := hJ (Res G p) S2 H ⟨fun a o e z => let ⟨n1, n2, n3⟩ := f2.kp a o e z.1 z.2.1; ⟨⟨n1, n2, fun g => g.elim z.2.2 (ne_of_none e hp)⟩, n3⟩, f2.dk⟩ rh2
  by_cases hlt : i < xs.length
  · have hx : xs[i]? = some xs[i] := by simp [hlt]
    rw [List.drop_eq_getElem_cons hlt] at t2
    obtain ⟨k2, t2⟩ := t2
    obtain ⟨go, yl⟩ := ok.go i _ S2 H hx (.refl _ _) rh2 k2
    refine .inr ⟨go, fun H' => ∃ S2 accd acc, FL S1 H1 S2 H' ∧ RH K (Res G p) S2 H' ∧ H' p = some (.dK acc) ∧ RDk K (Res G p) S2 H' accd acc ∧ RSl K (Res G p) S2 H' (wipeD σd vs) (wipe σ vs) ∧ acc.length ≤ i + 1 ∧ dcD g tt tk tv (wipeD σd vs) keep Qd (xs.drop (i + 1)) accd S2, fun H' n => ⟨_, by omega, rfl, hlt, n⟩, fun x H3 y => ?_⟩
    obtain ⟨f3, rh3, q3⟩ := yl x H3 y
    have pk : ∀ {S5 : HD} {H5 : Hp}, FL S2 H S5 H5 → H5 p = some (.dK acc) := fun {S5 H5} f => (f.kp p _ hacc (RH.resFree rh2).1 (RH.resFree rh2).2).2.2
    refine ⟨Res G p, _, S2, _, _, rsl2.fl f3, rh3, q3, t2, fun S4 σd4 σ4 H4 f4 rh4 rs4 w4 t4 => ⟨?_, ?_⟩⟩
    · rw [wipe2] at w4; exact w4
    refine ⟨Res G p, σd4, S4, _, rs4, rh4, t4, fun S5 b H5 f5 rh5 t5 => ?_⟩
    have f25 := f3.trans (f4.trans f5)
    have f15 := f2.trans f25
    cases b with
    | false =>
      refine iteF ?_
      rw [if_neg Bool.false_ne_true] at t5
      exact ⟨S5, accd, acc, f15, rh5, pk f25, racc.mv f25.mv, rsl2.fl f25, Nat.le_succ_of_le hlen, t5⟩
    | true =>
      refine iteT ?_
      rw [if_pos rfl] at t5
      refine ⟨Res G p, σd4, S5, _, rs4.fl f5, rh5, t5, fun S6 dk vk H6 f6 rh6 q6 t6 => ?_⟩
      refine ⟨Res G p, σd4, S6, _, (rs4.fl f5).fl f6, rh6, t6, fun S7 d v H7 f7 rh7 q7 t7 => ?_⟩
      split at t7
      · rename_i k ek
        have f27 := f25.trans (f6.trans f7)
        have hl : acc.length < sizeLine := by omega
        have ll : (putK acc k v).length ≤ i + 1 := by have := length_putK acc k v; omega
        refine ⟨acc, k, key_v ek q6, pk f27, hl, S7, putD accd k d, putK acc k v, (f2.trans f27).updp hp, rh7.resW _, upd_same, (rdk_put k q7 (racc.mv f27.mv)).mv res_mv, (rsl2.fl f27).mv res_mv, ll, t7⟩
      · exact t7.elim
  · have e : i = xs.length := by omega
    subst e
    rw [List.drop_length] at t2
    exact .inl ⟨ok.stop S2 H (.refl _ _) rh2 t2.1, fin S2 H accd acc f2 rh2 hacc racc t2.2⟩
theorem de_dcV (hN : X.N.Nodup) (hi : DI X tg iter ti) (ok : BlkOk X.N X.env.scope scope own)
    (hg : ∀ (s : Shared) (H : Hp) (C : Addr) (cl : List (Str × Addr)) (fp : List Addr), DGw (X.blk s H scope (compEnvC scope cl C X.env) fp) (own.map (·.2)) tg g) (ht : ∀ (s : Shared) (H : Hp) (C : Addr) (cl : List (Str × Addr)) (fp : List Addr), DTs (X.blk s H scope (compEnvC scope cl C X.env) fp) ifs tt)
    (hk : ∀ (s : Shared) (H : Hp) (C : Addr) (cl : List (Str × Addr)) (fp : List Addr), DE (X.blk s H scope (compEnvC scope cl C X.env) fp) kx tk)
    (he : ∀ (s : Shared) (H : Hp) (C : Addr) (cl : List (Str × Addr)) (fp : List Addr), DE (X.blk s H scope (compEnvC scope cl C X.env) fp) vx tv) (hc : X.calm = true := by rfl) (hs : ∀ x, foldedSetIterable iter X.env x = pure x := by intro _; rfl) :
    DE X (.DictComp kx vx [⟨tg, iter, ifs, 0⟩] scope pos) (tDcV ti g tt tk tv (own.map (·.2))) :=
  (pe_dc hc hN hi ok hg ht hk he hs).imp fun σ H Q ⟨G, σd, S, Qd, rs, rh, t, p⟩ =>
    ⟨G, σd, S, _, rs, rh, t, fun S1 J xs keep H1 f1 rh1 hJ ⟨hz, t1⟩ q hq => dc_up (rs.fl f1) rh1 hJ hz t1 hq fun S2 H2 accd acc f2 rh2 hacc racc qd =>
      p S2 _ _ H2 (f1.trans f2) rh2.resOut (.dic ⟨⟨(RH.resFree rh2).1, (RH.resFree rh2).2, fun g => by
        obtain ⟨⟨o, e⟩, _⟩ := rh1.rs q g
        rw [hq] at e; cases e⟩, .inl hacc⟩ (racc.mv res_out)) qd⟩
end
end PD
end

section
/-! PD24: name = {k: v for ..}; [::-1] of any. -/
namespace PD
open PySem PySem.Spec PyProof.Rows L2
section
variable {X : Cx} {kx vx tg iter e : Expr} {ifs : List Expr} {scope : Scope} {own : List (Str × Nat)} {pos py spos : Pos} {y : Str}
theorem sw_dict {l : Nat} {env : Env} {gs : List Comprehension} (hk : env.scope.kind = .function) (hy : env.scope.names.lookup y = some .local) (hl : (py.line == pos.line) = true) (ha : (scope.names.any fun (n, k) => n == y && (k == .local || k == .cell)) = false) :
    swapsWith (.DictComp kx vx gs scope pos) (some (.Name y py)) l env = pure true := by
  have ky : env.kindOf y = some .local := hy
  have hb : env.blockKind = .function := by unfold Env.blockKind; rw [hk]; rfl
  unfold swapsWith
  simp only [hb, ky, ha, Expr.pos, hl]
  rfl
theorem ps_setDc {i : Nat} {wi : TI} {g : TG} {tt : TT} {tk tv : TE} (hc : X.calm = true) (hN : X.N.Nodup) (hy : X.N[i]? = some y) (hyl : X.env.scope.names.lookup y = some .local)
    (hsw : swapsWith (.DictComp kx vx [⟨tg, iter, ifs, 0⟩] scope pos) (some (.Name y py)) spos.line X.env = pure true) (hi : PI X tg iter wi) (ok : BlkOk X.N X.env.scope scope own)
    (hg : ∀ (s : Shared) (H : Hp) (C : Addr) (cl : List (Str × Addr)) (fp : List Addr), PG (X.blk s H scope (compEnvC scope cl C X.env) fp) tg g) (ht : ∀ (s : Shared) (H : Hp) (C : Addr) (cl : List (Str × Addr)) (fp : List Addr), PTs (X.blk s H scope (compEnvC scope cl C X.env) fp) ifs tt)
    (hk : ∀ (s : Shared) (H : Hp) (C : Addr) (cl : List (Str × Addr)) (fp : List Addr), PE (X.blk s H scope (compEnvC scope cl C X.env) fp) kx tk)
    (he : ∀ (s : Shared) (H : Hp) (C : Addr) (cl : List (Str × Addr)) (fp : List Addr), PE (X.blk s H scope (compEnvC scope cl C X.env) fp) vx tv) (hs : ∀ x, foldedSetIterable iter X.env x = pure x := by intro _; rfl) :
    PS X (.Assign [.Name y py] (.DictComp kx vx [⟨tg, iter, ifs, 0⟩] scope pos) spos) (tAsg (tDc wi g tt tk tv (own.map (·.2))) (gName i)) := by
  refine ⟨fun pins s σ H D I h => ?_⟩
  rw [exec_Assign_Name_used _ _ _ _ hsw]
  refine wpAny_bind (wpAny_standAt (wpAny_bind ?_))
  show wpAny _ X.A (do let _ ← comprehension (.DictComp kx vx [⟨tg, iter, ifs, 0⟩] scope pos) scope X.env (firstIterPos [⟨tg, iter, ifs, 0⟩] pos) newDict false (eval iter X.env) (some (assign (.Name y py) X.env))) _ _ s
  have h' : tDc wi g tt tk tv (own.map (·.2)) σ H (fun x H1 => gName i x σ H1 D.nx) := h
  refine wpAny_bind (thn (dc_core (Qf := fun _ s' => SP X pins D .next s') hc hN I hi ok hg ht hk he hs h' fun L C s' m H' I' q hn f => ?_) fun _ s' hq => wpAny_pure (wpAny_pure hq))
  show wpAny _ _ (assign (.Name y py) X.env (.ref L)) _ _ _
  refine wpAny_assign_Name (store_ok2 (v := V.ref L) I' hN hy (.inl hyl) rfl (fun s2 I2 ⟨a, sb, ha⟩ => ?_) (.inr hyl))
  obtain ⟨f0, f1, f2, f3, f4, f5⟩ := f
  have haC : C ≠ a := ha.elim (fun z => by rw [z]; exact f1) fun z e => f4 y a z e.symm
  exact ⟨m, hn.sameBut sb haC, fun h3 sb3 => ⟨_, H', I2.turned (t' := s2.toks) (fun b o hb e => (sb3.2 b hb).trans e) f0 f1 f3 f4 f5, q⟩⟩
theorem ds_setDcV (i : Nat) {ti : TID} {g : TGD} {tt : TTD} {tk tv : TED} (hN : X.N.Nodup) (hi : DI X tg iter ti) (ok : BlkOk X.N X.env.scope scope own)
    (hg : ∀ (s : Shared) (H : Hp) (C : Addr) (cl : List (Str × Addr)) (fp : List Addr), DGw (X.blk s H scope (compEnvC scope cl C X.env) fp) (own.map (·.2)) tg g) (ht : ∀ (s : Shared) (H : Hp) (C : Addr) (cl : List (Str × Addr)) (fp : List Addr), DTs (X.blk s H scope (compEnvC scope cl C X.env) fp) ifs tt)
    (hk : ∀ (s : Shared) (H : Hp) (C : Addr) (cl : List (Str × Addr)) (fp : List Addr), DE (X.blk s H scope (compEnvC scope cl C X.env) fp) kx tk)
    (he : ∀ (s : Shared) (H : Hp) (C : Addr) (cl : List (Str × Addr)) (fp : List Addr), DE (X.blk s H scope (compEnvC scope cl C X.env) fp) vx tv) (hy : X.N[i]? = some y := by rfl) (hyl : X.env.scope.names.lookup y = some .local := by rfl)
    (hsw : swapsWith (.DictComp kx vx [⟨tg, iter, ifs, 0⟩] scope pos) (some (.Name y py)) spos.line X.env = pure true := by exact sw_dict rfl rfl rfl (by decide +kernel)) (hc : X.calm = true := by rfl) (hs : ∀ x, foldedSetIterable iter X.env x = pure x := by intro _; rfl) :
    DS X (.Assign [.Name y py] (.DictComp kx vx [⟨tg, iter, ifs, 0⟩] scope pos) spos) (sAsgD (tDcV ti g tt tk tv (own.map (·.2))) (gNameD i)) :=
  (ps_setDc hc hN hy hyl hsw hi ok hg ht hk he hs).imp fun E σ H ⟨G, σd, S, Dd, rs, rh, t, p⟩ =>
    ⟨G, σd, S, _, rs, rh, t, fun S1 J xs keep H1 f1 rh1 hJ ⟨hz, t1⟩ q hq => dc_up (Q := fun x H2 => gName i x σ H2 E.nx) (rs.fl f1) rh1 hJ hz t1 hq fun S2 H2 accd acc f2 rh2 hacc racc qd =>
      p.nx S2 _ _ H2 (f1.trans f2) rh2.resOut ((rs.fl (f1.trans f2)).set (d := .dic accd) (.dic ⟨⟨(RH.resFree rh2).1, (RH.resFree rh2).2, fun g => by
        obtain ⟨⟨o, e⟩, _⟩ := rh1.rs q g
        rw [hq] at e; cases e⟩, .inl hacc⟩ (racc.mv res_out)) i) (st_eq σd i _ ▸ qd)⟩
/-- [::-1] of a tuple or of a list -/
def tRevX (te : TED) : TED := fun σ S Q => tRevTD te σ S Q ∨ tRevLD te σ S Q
theorem de_rev {te : TED} {k : Nat} {p1 p2 p3 : Pos} (he : DE X e te) : DE X (.Subscript e (.Slice none none (some (.UnaryOp .USub (.Constant (.int 1) k p1) p2)) p3) pos) (tRevX te) :=
  ⟨fun pins s σ H Q I ⟨G, σd, S, Qd, rs, rh, t, p⟩ => t.elim (fun t => (de_revT he).run pins s σ H Q I ⟨G, σd, S, Qd, rs, rh, t, p⟩) fun t => (de_revL he).run pins s σ H Q I ⟨G, σd, S, Qd, rs, rh, t, p⟩⟩
end
end PD
end

section
/-! PD25: None in d. -/
namespace PD
open PySem PySem.Spec PyProof.Rows L2
theorem leaf_keys {P : Program} {w : World} {es : Array DictEntry} (h : KeysOf (mixKind P w) es) : KeysOf (leafKind P w) es ∧ findBy (leafKind P w).is es Leaf.none = none := by
  have key : ∀ e ∈ es, (∃ k, (leafKind P w).is k e.key = true ∧ e.hash = (leafKind P w).hash k) ∧ (leafKind P w).is Leaf.none e.key = false := fun e he => by
    obtain ⟨k, h1, h2⟩ := h e he
    have h1' : keyIs k e.key = true := h1
    have h2' : e.hash = keyH w k := h2
    rcases keyIs_shape h1' with ⟨i, t, e1, e2⟩ | ⟨x, t, e1, e2⟩
    · subst e1
      rw [e2]
      exact ⟨⟨.num i, decide_eq_true rfl, h2'⟩, rfl⟩
    · subst e1
      rw [e2]
      exact ⟨⟨.text x, keyIs_str x t, h2'⟩, rfl⟩
  refine ⟨fun e he => (key e he).1, ?_⟩
  unfold findBy
  rw [Array.find?_eq_none.mpr fun e he => by rw [(key e he).2]; exact Bool.false_ne_true]
  rfl
section
variable {X : Cx} {a b : Expr} {ta tb : TED} {pos : Pos}
def rNoneIn (neg : Bool) : R2 := fun x y H Q => ∃ a kvs, x = .non ∧ y = .ref a ∧ Rd H a (.dK kvs) ∧ Q (.bl neg) H
theorem none_map {pins : List (Addr × Obj)} {σ : L2.St} {H : Hp} {s : Shared} (I : Inv X pins σ H s) {a : Addr} {kvs : List (Key × V)} (h : Rd H a (.dK kvs)) : (a == sysModules) = false ∧ ∃ f, s.heap.MapOf (leafKind X.prog X.w) a f ∧ f Leaf.none = none := by
  obtain ⟨_, hd, vs, _, o, es, ep, h1, h2, h3, h4, _⟩ := dk_rd I.hok h
  obtain ⟨k1, k2⟩ := leaf_keys h4
  exact ⟨hd, _, ⟨o, es, ep, h1, h2, h3, k1, fun _ => rfl⟩, k2⟩
theorem op_noneIn : OpR X (compareOp .In) (rNoneIn false) := by
  intro pins s σ H x y v u Q I rx ry ⟨a, kvs, e1, e2, h, q⟩
  subst e1 e2
  obtain rfl : v = Value.none := rx
  obtain rfl : u = Value.ref a := ry
  obtain ⟨hd, f, hm, hf⟩ := none_map I h
  refine wpAny_in_of (knd := leafKind X.prog X.w) (k := Leaf.none) rfl hd hm ?_
  rw [hf]
  exact ⟨.bl false, H, I.tok _, rfl, q⟩
theorem op_noneNotIn : OpR X (compareOp .NotIn) (rNoneIn true) := by
  intro pins s σ H x y v u Q I rx ry ⟨a, kvs, e1, e2, h, q⟩
  subst e1 e2
  obtain rfl : v = Value.none := rx
  obtain rfl : u = Value.ref a := ry
  obtain ⟨hd, f, hm, hf⟩ := none_map I h
  refine wpAny_notIn_of (knd := leafKind X.prog X.w) (k := Leaf.none) rfl hd hm ?_
  rw [hf]
  exact ⟨.bl true, H, I.tok _, rfl, q⟩
def rInY (neg : Bool) : R2D := fun x y S Q => match x, asDic S y with
  | .non, some _ => Q (.bl neg) S
  | x, _ => rInX neg x y S Q
theorem inY2 {K : PySem.W.Frag} (neg : Bool) : Op2 K (fun x y H Q => (rIn K neg x y H Q ∨ rDIn neg x y H Q) ∨ rNoneIn neg x y H Q) (rInY neg) := fun G S H d1 d2 v1 v2 Qd Q rh q1 q2 t p => by
  unfold rInY at t
  split at t
  · rename_i kds e
    obtain ⟨a, kvs, rfl, r0, r⟩ := asDic_ok rh e q2
    cases q1
    exact .inr ⟨a, kvs, rfl, rfl, r0, p.here rh (.bl _) t⟩
  · exact .inl (inX2 neg G S H _ _ v1 v2 Qd Q rh q1 q2 t p)
theorem de_inY {k : Nat} (hr : RoomG k X.A) (ha : DE X a ta) (hb : DE X b tb) (hm : behindInMarks .In b = false := by rfl) : DE X (.Compare a [.In] [b] pos) (tBin (rInY false) ta tb) := de_cmp ((op_in_seq.or (op_inD hr.un1)).or op_noneIn) (inY2 false) ha hb hm
theorem de_notInY {k : Nat} (hr : RoomG k X.A) (ha : DE X a ta) (hb : DE X b tb) (hm : behindInMarks .NotIn b = false := by rfl) : DE X (.Compare a [.NotIn] [b] pos) (tBin (rInY true) ta tb) := de_cmp ((op_notIn_seq.or (op_notInD hr.un1)).or op_noneNotIn) (inY2 true) ha hb hm
theorem dt_inY {k : Nat} (hr : RoomG k X.A) (ha : DE X a ta) (hb : DE X b tb) (hm : behindInMarks .In b = false := by rfl) : DT X (.Compare a [.In] [b] pos) (tTst (tBin (rInY false) ta tb)) := dt_cmp ((op_in_seq.or (op_inD hr.un1)).or op_noneIn) (inY2 false) ha hb hm
theorem dt_notInY {k : Nat} (hr : RoomG k X.A) (ha : DE X a ta) (hb : DE X b tb) (hm : behindInMarks .NotIn b = false := by rfl) : DT X (.Compare a [.NotIn] [b] pos) (tTst (tBin (rInY true) ta tb)) := dt_cmp ((op_notIn_seq.or (op_notInD hr.un1)).or op_noneNotIn) (inY2 true) ha hb hm
end
end PD
end

section
/-! PD26: instances of own classes: fields, methods, making. -/
namespace PD
open PySem PySem.Spec PyProof.Rows L2
theorem lookup_rel {K : PySem.W.Frag} {G : Addr → Prop} {S : HD} {H : Hp} {f : Str} {d : D} : ∀ {fs : List (Str × D)} {vs : List (Str × V)}, fs.map (·.1) = vs.map (·.1) → RDs K G S H (fs.map (·.2)) (vs.map (·.2)) → fs.lookup f = some d → ∃ v, vs.lookup f = some v ∧ RD K G S H d v
  | [], _, _, _, l => by cases l
  | (x, e) :: fs, [], k, _, _ => by cases k
  | (x, e) :: fs, (y, v) :: vs, k, r, l => by
    simp only [List.map_cons, List.cons.injEq] at k
    obtain ⟨rfl, k⟩ := k
    simp only [List.map_cons] at r
    cases r with
    | cons q r =>
      rw [List.lookup_cons] at l ⊢
      cases hb : f == x with
      | true => rw [hb] at l; cases l; exact ⟨v, by simp, q⟩
      | false => rw [hb] at l; exact lookup_rel k r l
theorem lookup_none {f : Str} : ∀ {fs : List (Str × D)} {vs : List (Str × V)}, fs.map (·.1) = vs.map (·.1) → fs.lookup f = none → vs.lookup f = none
  | [], [], _, _ => rfl
  | [], _ :: _, k, _ => by cases k
  | (x, e) :: fs, [], k, _ => by cases k
  | (x, e) :: fs, (y, v) :: vs, k, l => by
    simp only [List.map_cons, List.cons.injEq] at k
    obtain ⟨rfl, k⟩ := k
    rw [List.lookup_cons] at l ⊢
    cases hb : f == x with
    | true => rw [hb] at l; cases l
    | false => rw [hb] at l; exact lookup_none k l
/-- e.f of an instance of C -/
def fldD (C : Addr) (f : Str) (x : D) (S : HD) (Q : QD) : Prop := match x with
  | .ref a => (match S.hp a with
    | some (.ins C' fs) => C' = C ∧ (match fs.lookup f with | some d => Q d S | none => False)
    | _ => False)
  | _ => False
def tFldD (C : Addr) (f : Str) (te : TED) : TED := fun σ S Q => te σ S fun x S1 => fldD C f x S1 Q
section
variable {X : Cx} {C : Addr} {f m : Str} {e o : Expr} {te to : TED} {pos apos p : Pos}
theorem de_fld (hc : Cls X.K C) (hn : NoAttr X.K C f) (he : DE X e te) (hb : attributeBase e f X.env (eval e X.env) = eval e X.env := by rfl) : DE X (.Attribute e f pos) (tFldD C f te) :=
  (pe_fld he hb).imp fun σ H Q ⟨G, σd, S, Qd, rs, rh, t, p⟩ => ⟨G, σd, S, _, rs, rh, t, fun S1 d v H1 f1 rh1 q1 t1 => by
    unfold fldD at t1
    split at t1
    · rename_i a
      split at t1
      · rename_i C' fs e1
        obtain ⟨rfl, t2⟩ := t1
        split at t2
        · rename_i d' e2
          obtain ⟨h1, h2, dx, vs, h3, h4, h5⟩ := rh1.hp a _ e1
          cases q1
          obtain ⟨v', l1, q⟩ := lookup_rel h4 h5 e2
          exact ⟨a, C', dx, vs, v', rfl, h3, hc, hn, l1, (p.fl f1).here rh1 q t2⟩
        · exact t2.elim
      · exact t1.elim
    · exact t1.elim⟩
/-- a method of a class -/
structure HasM (P : Program) (w : World) (K : PySem.W.Frag) (mg : Str → Option Value) (base : Heap) (k : Nat) (C : Addr) (m : Str) (ps : List Str) (sp : SpD) : Prop where
  ex : ∃ f fd, Meth K C m f ∧ Binds K fd ps [] ∧ FnD P w K mg base k f fd ps sp
theorem HasM.mono {P : Program} {w : World} {K : PySem.W.Frag} {mg : Str → Option Value} {base : Heap} {j k : Nat} {C : Addr} {m : Str} {ps : List Str} {sp : SpD} (h : HasM P w K mg base j C m ps sp) (l : j ≤ k) : HasM P w K mg base k C m ps sp :=
  let ⟨f, fd, a, b, c⟩ := h.ex; ⟨f, fd, a, b, c.mono l⟩
def methD (C : Addr) (m : Str) (x : D) (S : HD) (P : Prop) : Prop := match x with
  | .ref a => (match S.hp a with
    | some (.ins C' fs) => C' = C ∧ fs.lookup m = none ∧ P
    | _ => False)
  | _ => False
def tMethC (C : Addr) (m : Str) (sp : SpD) (to : TED) (ta : TAD) : TED := fun σ S Q => to σ S fun x S1 => methD C m x S1 (ta σ S1 fun ds S2 => sp (x :: ds) S2 Q)
variable {k : Nat} {ps : List Str} {sp : SpD} {es : List Expr} {ta : TAD}
theorem methD_ok {x : D} {S : HD} {P : Prop} (t : methD C m x S P) : ∃ a fs, x = .ref a ∧ S.hp a = some (.ins C fs) ∧ fs.lookup m = none ∧ P := by
  unfold methD at t
  split at t
  · rename_i a
    split at t
    · rename_i C' fs e1
      obtain ⟨rfl, l, t2⟩ := t
      exact ⟨a, fs, rfl, e1, l, t2⟩
    · exact t.elim
  · exact t.elim
theorem de_methC {pl : Sem Bool} (hc : Cls X.K C) (h : HasM X.prog X.w X.K X.mg X.base k C m ps sp) (hr : RoomG k X.A) (ho : DE X o to) (ha : DA X (e :: es) ta)
    (hst : starEach (e :: es) X.env = (false, eval e X.env) :: starEach es X.env := by rfl) (hpl : (backTo pos (starEach es X.env)).any (·.1) = false := by rfl)
    (ht : eval (.Call (.Attribute o m apos) (e :: es) [] pos) X.env = (do
      let ov ← eval o X.env
      standAt apos.atName
      let (f, first) ← holding [ov] (getMethod ov m pl)
      callWith pos f first (backTo pos (starEach (e :: es) X.env)) (backToKw pos (keywordEach [] X.env))) := by rfl) :
    DE X (.Call (.Attribute o m apos) (e :: es) [] pos) (tMethC C m sp to ta) := by
  obtain ⟨f, fd, hm, hb, F⟩ := h.ex
  refine ⟨fun pins s σ H Q I ⟨G, σd, S, Qd, rs, rh, t, p⟩ => ?_⟩
  have hO := ho.run pins s σ H (fun v H1 => ∃ S1 d, FL S H S1 H1 ∧ RH X.K G S1 H1 ∧ RD X.K G S1 H1 d v ∧ methD C m d S1 (ta σd S1 fun ds S2 => sp (d :: ds) S2 Qd)) I ⟨G, σd, S, _, rs, rh, t, fun S1 d v H1 f1 rh1 q1 t1 => ⟨S1, d, f1, rh1, q1, t1⟩⟩
  refine PySem.W.methodCall_KW (pl := pl) (thn hO fun u s1 ⟨v, H1, I1, rv, S1, d, f1, rh1, q1, t1⟩ => ?_) ht
  obtain ⟨a, fs, rfl, e1, l, t2⟩ := methD_ok t1
  obtain ⟨h1, h2, dx, vs, h3, h4, h5⟩ := rh1.hp a _ e1
  cases q1
  obtain rfl : u = Value.ref a := rv
  refine getmeth_ok I1 h3 hc hm (lookup_none h4 l) ?_
  have hA := ha.run pos pins s1 σ H1 (fun vs H2 => ∃ S2 ds, FL S1 H1 S2 H2 ∧ RH X.K G S2 H2 ∧ RDs X.K G S2 H2 ds vs ∧ sp (.ref a :: ds) S2 Qd) I1 ⟨G, σd, S1, _, rs.fl f1, rh1, t2, fun S2 ds vs H2 f2 rh2 q2 t3 => ⟨S2, ds, f2, rh2, q2, t3⟩⟩
  refine PySem.W.callWith_K (first := [.ref a]) (h₀ := X.base) I.ok.mod.kin hm.kp (thn hA fun us s2 ⟨vs2, H2, I2, r, S2, ds, f2, rh2, q2, t3⟩ => ⟨I2.kIn, ?_⟩) hst hpl
  exact run_fnD (us := .ref a :: us) (vs := .ref a :: vs2) F hr hb I2 (.cons rfl r) (.cons (.ref a) q2) rh2 t3 (p.fl (f1.trans f2))
theorem de_methC0 {pl : Sem Bool} (hc : Cls X.K C) (h : HasM X.prog X.w X.K X.mg X.base k C m ps sp) (hr : RoomG k X.A) (ho : DE X o to)
    (ht : eval (.Call (.Attribute o m apos) [] [] pos) X.env = (do
      let ov ← eval o X.env
      standAt apos.atName
      let (f, first) ← holding [ov] (getMethod ov m pl)
      callWith pos f first (backTo pos (starEach [] X.env)) (backToKw pos (keywordEach [] X.env))) := by rfl) :
    DE X (.Call (.Attribute o m apos) [] [] pos) (tMethC C m sp to tNilD) := by
  obtain ⟨f, fd, hm, hb, F⟩ := h.ex
  refine ⟨fun pins s σ H Q I ⟨G, σd, S, Qd, rs, rh, t, p⟩ => ?_⟩
  have hO := ho.run pins s σ H (fun v H1 => ∃ S1 d, FL S H S1 H1 ∧ RH X.K G S1 H1 ∧ RD X.K G S1 H1 d v ∧ methD C m d S1 (sp [d] S1 Qd)) I ⟨G, σd, S, _, rs, rh, t, fun S1 d v H1 f1 rh1 q1 t1 => ⟨S1, d, f1, rh1, q1, t1⟩⟩
  refine PySem.W.methodCall_KW (pl := pl) (thn hO fun u s1 ⟨v, H1, I1, rv, S1, d, f1, rh1, q1, t1⟩ => ?_) ht
  obtain ⟨a, fs, rfl, e1, l, t2⟩ := methD_ok t1
  obtain ⟨h1, h2, dx, vs, h3, h4, h5⟩ := rh1.hp a _ e1
  cases q1
  obtain rfl : u = Value.ref a := rv
  refine getmeth_ok I1 h3 hc hm (lookup_none h4 l) ?_
  exact PySem.W.callWith_K0 (first := [.ref a]) I1.kIn hm.kp (run_fnD (us := [.ref a]) (vs := [.ref a]) F hr hb I1 (.cons rfl .nil) (.cons (.ref a) .nil) rh1 t2 (p.fl f1))
end
end PD
end

section
/-! PD27: instances: a field is set; making one. -/
namespace PD
open PySem PySem.Spec PyProof.Rows L2
def putFD (f : Str) (v : D) : List (Str × D) → List (Str × D)
  | [] => [(f, v)]
  | (g, x) :: r => if g = f then (g, v) :: r else (g, x) :: putFD f v r
theorem putF_rel {K : PySem.W.Frag} {G : Addr → Prop} {S : HD} {H : Hp} {f : Str} {d : D} {v : V} (q : RD K G S H d v) : ∀ {fs : List (Str × D)} {vs : List (Str × V)}, fs.map (·.1) = vs.map (·.1) → RDs K G S H (fs.map (·.2)) (vs.map (·.2)) → (putFD f d fs).map (·.1) = (putF f v vs).map (·.1) ∧ RDs K G S H ((putFD f d fs).map (·.2)) ((putF f v vs).map (·.2))
  | [], [], _, _ => ⟨rfl, .cons q .nil⟩
  | [], _ :: _, k, _ => by cases k
  | (x, e) :: fs, [], k, _ => by cases k
  | (x, e) :: fs, (y, w) :: vs, k, r => by
    simp only [List.map_cons, List.cons.injEq] at k
    obtain ⟨rfl, k⟩ := k
    simp only [List.map_cons] at r
    cases r with
    | cons q1 r =>
      obtain ⟨i1, i2⟩ := putF_rel q k r
      unfold putFD putF
      by_cases h : x = f
      · rw [if_pos h, if_pos h]
        exact ⟨by simp only [List.map_cons, k], .cons q r⟩
      · rw [if_neg h, if_neg h]
        exact ⟨by simp only [List.map_cons, i1], .cons q1 i2⟩
theorem RH.writeI {K : PySem.W.Frag} {G : Addr → Prop} {S : HD} {H : Hp} (rh : RH K G S H) {a C dx : Addr} {fs gs : List (Str × D)} {ws : List (Str × V)} (h : S.hp a = some (.ins C fs)) (k : gs.map (·.1) = ws.map (·.1)) (r : RDs K G S H (gs.map (·.2)) (ws.map (·.2))) :
    RH K G (S.set a (.ins C gs)) (upd H a (.ins C dx ws)) ∧ FL S H (S.set a (.ins C gs)) (upd H a (.ins C dx ws)) := by
  have m : Mv G S H G (S.set a (.ins C gs)) (upd H a (.ins C dx ws)) := ⟨fun b o e z => by
    have ne : b ≠ a := fun q => by rw [← q, z.1] at h; cases h
    exact ⟨⟨by rw [HD.set_ne ne]; exact z.1, z.2.1, z.2.2⟩, by rw [upd_ne ne]; exact e⟩, fun _ e => e⟩
  exact rh.write h ⟨dx, ws, upd_same, k, r.mv m⟩
/-- o.f = v -/
def sFldD (C : Addr) (f : Str) (to tv : TED) : TSD := fun D σ S => tv σ S fun y S1 => to σ S1 fun x S2 => match x with
  | .ref a => (match S2.hp a with
    | some (.ins C' fs) => C' = C ∧ fs.length < 1000 ∧ D.nx σ (S2.set a (.ins C (putFD f y fs)))
    | _ => False)
  | _ => False
section
variable {X : Cx} {C : Addr} {f m : Str} {e o value : Expr} {te to tv : TED} {pos apos p pos' : Pos}
theorem ds_fld (hc : Cls X.K C) (hn : NoAttr X.K C f) (ho : DE X o to) (hv : DE X value tv) (hs : swapsWith value (some (.Attribute o f pos')) pos.line X.env = pure false := by rfl) :
    DS X (.Assign [.Attribute o f pos'] value pos) (sFldD C f to tv) :=
  (ps_fld ho hv hs).imp fun D σ H ⟨G, σd, S, Dd, rs, rh, t, p⟩ => ⟨G, σd, S, _, rs, rh, t, fun S1 y u H1 f1 rh1 q1 t1 => ⟨G, σd, S1, _, rs.fl f1, rh1, t1, fun S2 x v H2 f2 rh2 q2 t2 => by
    split at t2
    · rename_i a
      split at t2
      · rename_i C' fs e1
        obtain ⟨rfl, hl, t3⟩ := t2
        obtain ⟨h1, h2, dx, vs, h3, h4, h5⟩ := rh2.hp a _ e1
        obtain ⟨k1, k2⟩ := putF_rel (f := f) (q1.fl f2) h4 h5
        obtain ⟨rh3, f3⟩ := rh2.writeI (dx := dx) e1 k1 k2
        cases q2
        have hl2 : vs.length < 1000 := by
          have := congrArg List.length h4
          simp only [List.length_map] at this
          omega
        exact ⟨a, C', dx, vs, rfl, h3, hc, hn, hl2, (p.nx.fl (f1.trans (f2.trans f3))).here rh3 (rs.fl (f1.trans (f2.trans f3))) t3⟩
      · exact t2.elim
    · exact t2.elim⟩⟩
/-- C(..) -/
structure HasC (P : Program) (w : World) (K : PySem.W.Frag) (mg : Str → Option Value) (base : Heap) (k : Nat) (x : Str) (C : Addr) (ps : List Str) (sp : SpD) : Prop where
  ex : ∃ f fd, mg x = some (.ref C) ∧ Mk K C f ∧ Binds K fd ps [] ∧ FnD P w K mg base k f fd ps sp
def tMakeD (C : Addr) (sp : SpD) (ta : TAD) : TED := fun σ S Q => ta σ S fun ds S1 => ∀ p, S1.hp p = none → sp (.ref p :: ds) (S1.set p (.ins C [])) fun d S2 => d = .non ∧ Q (.ref p) S2
variable {k : Nat} {x : Str} {ps : List Str} {sp : SpD} {es : List Expr} {ta : TAD}
theorem RoomG.make {k : Nat} {A : Around} (r : RoomG (k + 1) A) (C : Addr) (us : List Value) : RoomG k (A.under (.builtin "type.__call__" ⟨.ref C :: us, []⟩)) := ⟨r.rm.make C us [], r.gd⟩
theorem run_makeD {f : Addr} {fd : FuncData} {pins : List (Addr × Obj)} {σ : L2.St} {H : Hp} {s : Shared} {us : List Value} {vs : List V} {ds : List D} {G : Addr → Prop} {S : HD} {Qd : QD} {Q : VK}
    (M : Mk X.K C f) (F : FnD X.prog X.w X.K X.mg X.base k f fd ps sp) (hr : RoomG (k + 1) X.A) (hb : Binds X.K fd ps []) (I : Inv X pins σ H s) (r : Vals vs us) (q : RDs X.K G S H ds vs) (rh : RH X.K G S H)
    (h : ∀ p, S.hp p = none → sp (.ref p :: ds) (S.set p (.ins C [])) fun d S2 => d = .non ∧ Qd (.ref p) S2) (p : Post X.K G S H Qd Q) :
    wpAny (model X.prog X.w) X.A (call (.ref C) us) (EP X pins σ Q) X.xe s := by
  have n1 : H s.heap.objs.size = none := I.hok.fresh (Nat.le_refl _)
  have n2 : H (s.heap.objs.size + 1) = none := I.hok.fresh (Nat.le_succ _)
  have ne : s.heap.objs.size + 1 ≠ s.heap.objs.size := Nat.succ_ne_self _
  obtain ⟨rh1, f1, _⟩ := rh.newF n1 (.own (s.heap.objs.size + 1))
  have n2' : upd H s.heap.objs.size (.own (s.heap.objs.size + 1)) (s.heap.objs.size + 1) = none := by rw [upd_ne ne]; exact n2
  obtain ⟨rh2, f2⟩ := rh1.newR n2' (o := .ins C []) (ho := .ins C s.heap.objs.size []) ⟨s.heap.objs.size, [], upd_same, rfl, .nil⟩
  have hq := h (s.heap.objs.size + 1) (rh1.fresh n2').1
  have I2 := Inv.made (C := C) I
  have q2 : RDs X.K G _ _ (.ref (s.heap.objs.size + 1) :: ds) (V.ref (s.heap.objs.size + 1) :: vs) := .cons (.ref _) (q.fl (f1.trans f2))
  have r2 : Vals (V.ref (s.heap.objs.size + 1) :: vs) (Value.ref (s.heap.objs.size + 1) :: us) := .cons rfl r
  have hl : (Value.ref (s.heap.objs.size + 1) :: us).length = ps.length := by
    have h1 := F.len _ _ _ hq
    have h2 := q.length
    have h3 := r.length
    simp only [List.length_cons] at h1 ⊢
    omega
  have hb' := hb _ (Value.ref (s.heap.objs.size + 1) :: us) I2.kIn (by rw [List.append_nil]; exact hl)
  rw [List.append_nil] at hb'
  refine wpAny_call (make_map (f := f) I.kIn M.makes M.init (beq_iff_eq.mp M.fn) (codeAny_mono (F.run _ X.stack _ _ ⟨Value.ref (s.heap.objs.size + 1) :: us, []⟩ (Value.ref (s.heap.objs.size + 1) :: us) _ _ G _ _ (hr.make C us)
    (I2.env0.make C us []) hb' r2 q2 rh2 hq) fun z s' hq' => ?_))
  cases z with
  | error e => exact False.elim hq'
  | ok fl =>
    cases fl with
    | ret u =>
      have hq2 : CE X.stack X.prog X.w (upd (upd H s.heap.objs.size (.own (s.heap.objs.size + 1))) (s.heap.objs.size + 1) (.ins C s.heap.objs.size [])) { s with heap := (s.heap.push PySem.W.emptyDict).push (PySem.W.instObj C s.heap.objs.size) } (fun v H' => v = .non ∧ Q (.ref (s.heap.objs.size + 1)) H') u s' := by
        obtain ⟨v, H', h1, h2, h3, h4, h5, S', d, f', rh', rd', e, qd⟩ := hq'
        subst e
        refine ⟨v, H', h1, h2, h3, h4, h5, by cases rd'; rfl, p _ _ (.ref _) _ ((f1.trans f2).trans f') rh' (.ref _) qd⟩
      obtain ⟨v, H', I3, rv, ev, q3⟩ := I2.after hq2
      subst ev
      exact ⟨rv, ⟨V.ref (s.heap.objs.size + 1), H', I3, rfl, q3⟩⟩
    | next => exact False.elim hq'
    | brk => exact False.elim hq'
    | cont => exact False.elim hq'
theorem de_make (h : HasC X.prog X.w X.K X.mg X.base k x C ps sp) (hr : RoomG (k + 1) X.A) (ha : DA X (e :: es) ta) (hg : Gl X x := by rfl) (hdb : (x == ("__debug__" : Str)) = false := by decide)
    (he : starEach (e :: es) X.env = (false, eval e X.env) :: starEach es X.env := by rfl) (hpl : (backTo pos (starEach es X.env)).any (·.1) = false := by rfl) :
    DE X (.Call (.Name x p) (e :: es) [] pos) (tMakeD C sp ta) := by
  obtain ⟨f, fd, hm, M, hb, F⟩ := h.ex
  refine ⟨fun pins s σ H Q I ⟨G, σd, S, Qd, rs, rh, t, p⟩ => ?_⟩
  refine wpAny_Call_Name_kw (ld_glob I hg hm ?_ hdb)
  have hA := ha.run pos pins s σ H (fun vs H1 => ∃ S1 ds, FL S H S1 H1 ∧ RH X.K G S1 H1 ∧ RDs X.K G S1 H1 ds vs ∧ ∀ p, S1.hp p = none → sp (.ref p :: ds) (S1.set p (.ins C [])) fun d S2 => d = .non ∧ Qd (.ref p) S2) I ⟨G, σd, S, _, rs, rh, t, fun S1 ds vs H1 f1 rh1 q1 t1 => ⟨S1, ds, f1, rh1, q1, t1⟩⟩
  refine PySem.W.callWith_K (h₀ := X.base) I.ok.mod.kin M.kp ?_ he hpl
  refine thn hA fun us s1 hus => ?_
  obtain ⟨vs, H1, I1, r, S1, ds, f1, rh1, q1, t1⟩ := hus
  exact ⟨I1.kIn, run_makeD M F hr hb I1 r q1 rh1 t1 (p.fl f1)⟩
end
end PD
end

section
/-! PD28: the classes and methods of the written part. -/
namespace PD
open PySem PySem.Spec PyProof.Rows L2
/-- a method of the class C -/
structure MetOf (K : PySem.W.Frag) (C : Addr) (m qual : Str) (st : Stmt) : Prop where
  ex : ∃ f fd, Fun K m qual st f fd ∧ Meth K C m f
theorem metOf_mk {m qual : Str} {K : PySem.W.Frag} {C : Addr} {st : Stmt} {f : Addr} {od an : Option Addr} {sl : Array (Option Value)} {oc kV dc pm cd ct : Value}
    (a : PySem.W.findIn K (.ref C) m = some (some (.ref f))) (l : K.lookup f = some ⟨oc, od, .func (PySem.W.fnOf m qual (defArgs st) (defBody st) (defScope st) .none kV dc pm an cd ct), sl⟩) (c : PySem.W.codeIn K cd qual = true) (k : PySem.W.keepIn K (.ref f) = true) (fn : PySem.W.isFn K (.ref f) = true) : MetOf K C m qual st :=
  ⟨⟨f, _, fun_mk (st := st) l c k, ⟨a, fn, k⟩⟩⟩
theorem HasM.of {P : Program} {w : World} {K : PySem.W.Frag} {mg : Str → Option Value} {base : Heap} {k : Nat} {C f : Addr} {m qual : Str} {st : Stmt} {fd : FuncData} {ps : List Str} {sp : SpD} (hm : Meth K C m f) (hb : Binds K fd ps []) (h : FnD P w K mg base k f fd ps sp) : HasM P w K mg base k C m ps sp := ⟨⟨f, fd, hm, hb, h⟩⟩
/-- a class of the module that is made by its __init__ -/
structure ClsOf (K : PySem.W.Frag) (mg : Str → Option Value) (x : Str) (C : Addr) (qual : Str) (st : Stmt) : Prop where
  cls : Cls K C
  mg_ : mg x = some (.ref C)
  ini : ∃ f fd, Fun K "__init__" qual st f fd ∧ Mk K C f
theorem clsOf_mk {x qual : Str} {K : PySem.W.Frag} {h : Heap} {mg : Str → Option Value} (X : K.In h) (G : h.Ns mainGlobals mg) {C : Addr} {st : Stmt} {f : Addr} {od an : Option Addr} {sl : Array (Option Value)} {oc kV dc pm cd ct : Value}
    (g : PySem.W.nsIn K mainGlobals x = some (some (.ref C))) (c1 : PySem.W.plainGet K C Str.empty = true) (c2 : PySem.W.hasDictIn K C = true) (c3 : PySem.W.plainOver K C = true) (c4 : PySem.W.findIn K (.ref C) "__setattr__" = some (some (.builtin "object.__setattr__")))
    (a : PySem.W.findIn K (.ref C) "__init__" = some (some (.ref f))) (l : K.lookup f = some ⟨oc, od, .func (PySem.W.fnOf "__init__" qual (defArgs st) (defBody st) (defScope st) .none kV dc pm an cd ct), sl⟩) (c : PySem.W.codeIn K cd qual = true) (k : PySem.W.keepIn K (.ref f) = true) (fn : PySem.W.isFn K (.ref f) = true)
    (mk : PySem.W.makesIn K C = true) (kp : PySem.W.keepIn K (.ref C) = true) : ClsOf K mg x C qual st :=
  ⟨⟨c1, c2, c3, c4⟩, PySem.W.mg_of X G g, f, _, fun_mk (st := st) l c k, ⟨mk, a, fn, kp⟩⟩
end PD
end

section
/-! PD29: dict displays. -/
namespace PD
open PySem PySem.Spec PyProof.Rows L2
/-- the pairs of a display -/
def tPairsD : List (TED × TED) → SD → HD → (List (Key × D) → HD → Prop) → Prop
  | [], _, S, Q => Q [] S
  | (tk, tv) :: r, σ, S, Q => tk σ S fun x S1 => tv σ S1 fun y S2 => match keyOf x with
    | some k => tPairsD r σ S2 fun ps S3 => Q ((k, y) :: ps) S3
    | none => False
def putAll (ps : List (Key × D)) (kds : List (D × D)) : List (D × D) := ps.foldl (fun acc kd => putD acc kd.1 kd.2) kds
/-- {k: v, ..}, frozen -/
def tDispV (trs : List (TED × TED)) : TED := fun σ S Q => tPairsD trs σ S fun ps S2 => ps.length ≤ 15 ∧ Q (.dic (putAll ps [])) S2
def rKV (ps : List (Key × D)) : List (D × D) := ps.map fun p => (kD p.1, p.2)
theorem pairs_up {K : PySem.W.Frag} {G : Addr → Prop} : ∀ (trs : List (TED × TED)) {σd : SD} {σ : L2.St} {S : HD} {H : Hp} {Qd : List (Key × D) → HD → Prop} {Q : List (V × V) → Hp → Prop}, RSl K G S H σd σ → RH K G S H → tPairsD trs σd S Qd →
    (∀ S' H' ps kvs, FL S H S' H' → RH K G S' H' → RDk K G S' H' (rKV ps) kvs → Qd ps S' → Q (kvs.map fun kv => (kV kv.1, kv.2)) H') → tPairs (trs.map fun t => (up K t.1, up K t.2)) σ H Q
  | [], _, _, S, H, _, _, _, rh, t, f => f S H [] [] (.refl _ _) rh .nil t
  | (tk, tv) :: r, σd, σ, S, H, _, _, rs, rh, t, f => ⟨G, σd, S, _, rs, rh, t, fun S1 x vx H1 f1 rh1 q1 t1 => ⟨G, σd, S1, _, rs.fl f1, rh1, t1, fun S2 y vy H2 f2 rh2 q2 t2 => by
      split at t2
      · rename_i k ek
        have := key_v ek q1
        subst this
        refine pairs_up r ((rs.fl f1).fl f2) rh2 t2 fun S3 H3 ps kvs f3 rh3 q3 t3 => ?_
        exact f S3 H3 ((k, y) :: ps) ((k, vy) :: kvs) (f1.trans (f2.trans f3)) rh3 (.cons (q2.fl f3) q3) t3
      · exact t2.elim⟩⟩
theorem putAll_rel {K : PySem.W.Frag} {G : Addr → Prop} {S : HD} {H : Hp} : ∀ (ps : List (Key × D)) {kvs : List (Key × V)} {acc : List (D × D)} {accv : List (Key × V)}, RDk K G S H (rKV ps) kvs → RDk K G S H acc accv → RDk K G S H (putAll ps acc) (mergeK accv kvs)
  | [], [], _, _, _, r => r
  | _ :: _, [], _, _, q, _ => by have := rdk_len q; simp [rKV] at this
  | [], _ :: _, _, _, q, _ => by have := rdk_len q; simp [rKV] at this
  | (k, d) :: ps, (k', v) :: kvs, acc, accv, q, r => by
    have q' : RDk K G S H ((kD k, d) :: rKV ps) ((k', v) :: kvs) := q
    generalize hk : kD k = kd at q'
    cases q' with
    | cons h q2 =>
      have e : k = k' := by
        have := congrArg keyOf hk
        rw [keyOf_kD, keyOf_kD] at this
        exact Option.some.inj this
      subst e
      exact putAll_rel (kvs := kvs) ps q2 (rdk_put k h r)
abbrev DPs (X : Cx) (pos : Pos) (keys : List (Option Expr)) (values : List Expr) (trs : List (TED × TED)) : Prop := PPs X pos keys values (trs.map fun t => (up X.K t.1, up X.K t.2))
section
variable {X : Cx} {pos : Pos} {keys : List (Option Expr)} {values : List Expr} {trs : List (TED × TED)} {k v : Expr} {tk tv : TED}
theorem dps_nil : DPs X pos [] [] [] := pps_nil
theorem dps_cons (hk : DE X k tk) (hv : DE X v tv) (hr : DPs X pos keys values trs) : DPs X pos (some k :: keys) (v :: values) ((tk, tv) :: trs) := pps_cons hk hv hr
theorem de_disp (h : DPs X pos keys values trs) (hall : keys.all (·.isSome) = true := by rfl) (hl : keys.length = values.length := by rfl) (h0 : keys ≠ [] := by simp) (h15 : keys.length ≤ 15 := by decide) : DE X (.Dict keys values pos) (tDispV trs) :=
  (pe_disp h hall hl h0 h15).imp fun σ H Q ⟨G, σd, S, Qd, rs, rh, t, p⟩ => fun q hq => by
    refine pairs_up trs (G := Res G q) (rs.mv (res_in hq)) (rh.res hq _) t fun S' H' ps kvs f' rh' q' ⟨hl15, t'⟩ => ?_
    have fr := RH.resFree (rh.res hq (.dK []))
    have pk := (f'.kp q _ upd_same fr.1 fr.2).2.2
    have hlen : kvs.length = ps.length := by
      have := rdk_len q'
      unfold rKV at this
      rw [List.length_map] at this
      exact this.symm
    refine ⟨pk, kvs, rfl, by omega, ?_⟩
    have f2 : FL S H S' (upd H' q (.dK (mergeK [] kvs))) := (((Grow.upd hq).fl (S := S)).trans f').updp hq
    have fr2 := RH.resFree rh'
    have rr := putAll_rel ps q' (.nil (K := X.K) (G := Res G q) (S := S') (H := H'))
    refine p S' _ _ _ f2 (rh'.resW _).resOut (.dic ⟨⟨fr2.1, fr2.2, fun g => ?_⟩, .inl upd_same⟩ ((rr.mv res_mv).mv res_out)) t'
    obtain ⟨⟨o, e⟩, _⟩ := rh.rs q g
    rw [hq] at e; cases e
end
end PD
end

section
local macro_rules | `(tactic| walk_at "rdx") => `(tactic| simp only [PD.pad, PD.gt_z, PD.gt_s, PD.st_z, PD.st_s, PD.sNextD, PD.sSeqD, PD.sBreakD, PD.sContD, PD.sDropD, PD.sRetD, PD.sRetND, PD.sIfD, PD.sNeverD, PD.sAsgD, PD.sPar2, PD.sPar3, PD.gNameD, PD.gNilD, PD.gConsD, PD.gTupD, PD.gSubD, PD.tNilD, PD.tConsD, PD.tTupD, PD.tLstV, PD.tLstR, PD.tBin, PD.tTst, PD.tAndD, PD.tOrD, PD.tNotD, PD.tIfD, PD.tAndV, PD.tOrV, PD.tNotV, PD.tUnD, PD.rNeg, PD.tCallD, PD.tSlot, PD.tCD, PD.tChainD, PD.rIsN, PD.rNotN, PD.isN, PD.rIsiD, PD.isiB, PD.Ty.name, PD.rCmpI, PD.fLt, PD.fLe, PD.fGt, PD.fGe, PD.rAddD, PD.rSubD, PD.rFdivD, PD.rModD, PD.rPowD, PD.rMulD, PD.rAddR, PD.rMulR, PD.asSeq, PD.asLst, PD.rLenD, PD.rTupleD, PD.rListV, PD.rListR, PD.rIntD, PD.rBoolD, PD.rAbsD, PD.rIxD, PD.oNone, PD.oSome, PD.tSlD, PD.rSlD, PD.tRevTD, PD.rEqD, PD.rNeD, PD.nrm, PD.iSeqD, PD.iRng1D, PD.iRng2D, PD.sForD, PD.tLcV, PD.tLcR, PD.tYesD, PD.wipeD, PD.tMethL, PD.rAppD, PD.isRefL, PD.tDicV, PD.rSetD, PD.rReprD, reduceIte, true_and, and_true, Bool.not_true, Bool.not_false, Bool.false_eq_true, List.length_cons, List.length_nil, List.set_cons_zero, List.set_cons_succ, PD.HD.set_same, PD.HD.tick_hp, PD.HD.tick_c, PD.HD.tick_dk, PD.HD.set_c, PD.HD.set_dk])
/-! PD30: the other kind of draw (5501, 2147483179, 29, 2147483423). -/
namespace PD
open PySem PySem.Spec PyProof.Rows
def rdDraw2 : TSD :=
  sSeqD (sAsgD (tBin rAddD (tBin rIxD (tSlot 0) (tCD (.int 1))) (tCD (.int 1))) (gSubD (tSlot 0) (tCD (.int 1))))
  (sSeqD (sAsgD (tTupD (tConsD (tCD (.int 0)) (tConsD (tUnD rNeg (tCD (.int 1))) (tNilD)))) (gTupD 2 (gConsD (gNameD 2) (gConsD (gNameD 3) (gNilD)))))
  (sSeqD (sIfD (tTst (tBin (rCmpI fGt) (tCallD rLenD (tConsD (tBin rIxD (tSlot 0) (tCD (.int 0))) (tNilD))) (tCD (.int 0)))) (sSeqD (sAsgD (tBin rModD (tCallD rIntD (tConsD (tBin rIxD (tSlot 0) (tCD (.int 1))) (tNilD))) (tCallD rLenD (tConsD (tBin rIxD (tSlot 0) (tCD (.int 0))) (tNilD)))) (gNameD 3))
  (sAsgD (tBin rIxD (tBin rIxD (tSlot 0) (tCD (.int 0))) (tSlot 3)) (gNameD 2))) (sNextD))
  (sSeqD (sIfD (tTst (tBin (rCmpI fGe) (tSlot 2) (tBin rPowD (tCD (.int 10)) (tCD (.int 18))))) (sSeqD (sAsgD (tBin rFdivD (tCallD rIntD (tConsD (tSlot 2) (tNilD))) (tSlot 1)) (gSubD (tBin rIxD (tSlot 0) (tCD (.int 0))) (tSlot 3)))
  (sRetD (tBin rModD (tCallD rIntD (tConsD (tSlot 2) (tNilD))) (tSlot 1)))) (sNextD))
  (sSeqD (sAsgD (tBin rAddD (tBin rAddD (tBin rModD (tCallD rIntD (tConsD (tSlot 2) (tNilD))) (tCD (.int 2147483179))) (tBin rMulD (tCD (.int 5501)) (tBin rIxD (tSlot 0) (tCD (.int 1))))) (tCD (.int 29))) (gNameD 4))
  (sRetD (tBin rModD (tCallD rIntD (tConsD (tBin rModD (tCallD rIntD (tConsD (tBin rPowD (tSlot 4) (tCD (.int 5))) (tNilD))) (tCD (.int 2147483423))) (tNilD))) (tSlot 1)))))))
/-- behind the choice of the cell -/
def rdTail2 : TSD :=
  (sSeqD (sIfD (tTst (tBin (rCmpI fGe) (tSlot 2) (tBin rPowD (tCD (.int 10)) (tCD (.int 18))))) (sSeqD (sAsgD (tBin rFdivD (tCallD rIntD (tConsD (tSlot 2) (tNilD))) (tSlot 1)) (gSubD (tBin rIxD (tSlot 0) (tCD (.int 0))) (tSlot 3)))
  (sRetD (tBin rModD (tCallD rIntD (tConsD (tSlot 2) (tNilD))) (tSlot 1)))) (sNextD))
  (sSeqD (sAsgD (tBin rAddD (tBin rAddD (tBin rModD (tCallD rIntD (tConsD (tSlot 2) (tNilD))) (tCD (.int 2147483179))) (tBin rMulD (tCD (.int 5501)) (tBin rIxD (tSlot 0) (tCD (.int 1))))) (tCD (.int 29))) (gNameD 4))
  (sRetD (tBin rModD (tCallD rIntD (tConsD (tBin rModD (tCallD rIntD (tConsD (tBin rPowD (tSlot 4) (tCD (.int 5))) (tNilD))) (tCD (.int 2147483423))) (tNilD))) (tSlot 1)))))
theorem tail2_ok {S : HD} {a b : Addr} {cells : List Int} {k : Nat} {m c at_ : Int} (hab : a ≠ b) (hk : k < 1000000000000) (hl : cells.length ≤ 63) (h0 : ∀ z ∈ cells, 0 ≤ z) (h1 : 1 ≤ m) (h2 : m ≤ 500000000) (hc0 : 0 ≤ c)
    (ha : S.hp a = some (.lst [.ref b, .int ((k + 1 : Nat) : Int)])) (hb : S.hp b = some (.lst (cells.map D.int))) (hat : c = 0 ∨ (0 ≤ at_ ∧ at_ < cells.length)) {bk ct nx : SD → HD → Prop} :
    rdTail2 { nx := nx, rt := drawn a b k m, bk := bk, ct := ct } [some (.ref a), some (.int m), some (.int c), some (.int at_), none] S := by
  unfold rdTail2
  have hba : b ≠ a := fun e => hab e.symm
  walk_at "rdx"
  refine ⟨⟨by decide, by decide, by decide⟩, ?_⟩
  by_cases hc : (10 : Int) ^ (18 : Int).toNat ≤ c
  · have hc' : (1000000000000000000 : Int) ≤ c := hc
    rcases hat with e | ⟨h3, h4⟩
    · omega
    have hix : L2.ixN cells.length at_ = some at_.toNat := by unfold L2.ixN; rw [if_pos h3, if_pos h4]
    simp only [hc, decide_true, if_true]
    refine ⟨⟨by omega, by omega⟩, ?_⟩
    simp only [ha, hb, atI20, List.length_map, hix]
    refine ⟨by omega, c % m, cells.set at_.toNat (c / m), rfl, Int.emod_nonneg _ (by omega), Int.emod_lt_of_pos _ (by omega), ?_, ?_, ?_, ?_⟩
    · rw [HD.set_ne hab]; exact ha
    · rw [HD.set_same, List.map_set]
    · rw [List.length_set]; exact hl
    · intro z hz
      rcases List.mem_or_eq_of_mem_set hz with h | h
      · exact h0 z h
      · subst h; exact Int.ediv_nonneg (by omega) (by omega)
  · simp only [hc, decide_false, Bool.false_eq_true, if_false]
    simp only [ha, atI21]
    have e1 := Int.emod_nonneg c (b := 2147483179) (by decide)
    have e2 := Int.emod_lt_of_pos c (b := 2147483179) (by decide)
    refine ⟨by decide, ?_, ?_⟩
    · left
      decide
    refine ⟨⟨by decide, by decide, ?_⟩, by decide, by omega, _, cells, rfl, Int.emod_nonneg _ (by omega), Int.emod_lt_of_pos _ (by omega), ha, hb, hl, h0⟩
    omega
theorem draw2Ok : DrawOk rdDraw2 5 := by
  intro S a b cells k m hab hk hl h0 h1 h2
  have hba : b ≠ a := fun e => hab e.symm
  have ha : (openD S a b cells k).hp a = some (.lst [.ref b, .int (k : Int)]) := if_pos rfl
  have hb : (openD S a b cells k).hp b = some (.lst (cells.map D.int)) := (if_neg hba).trans (if_pos rfl)
  show rdDraw2 { nx := fun _ _ => False, rt := drawn a b k m } (pad 5 [.ref a, .int m]) (openD S a b cells k)
  generalize openD S a b cells k = S0 at ha hb
  unfold rdDraw2
  rw [show (sSeqD (sIfD (tTst (tBin (rCmpI fGe) (tSlot 2) (tBin rPowD (tCD (.int 10)) (tCD (.int 18))))) _ _) _) = rdTail2 from rfl]
  generalize hT : rdTail2 = T
  walk_at "rdx"
  simp only [ha, atI21]
  walk_at "rdx"
  simp only [ha, ixN21]
  walk_at "rdx"
  have ha' : (S0.set a (.lst [.ref b, .int ((k : Int) + 1)])).hp a = some (.lst [.ref b, .int ((k + 1 : Nat) : Int)]) := HD.set_same
  have hb' : (S0.set a (.lst [.ref b, .int ((k : Int) + 1)])).hp b = some (.lst (cells.map D.int)) := (HD.set_ne hba).trans hb
  generalize (S0.set a (.lst [.ref b, .int ((k : Int) + 1)])) = S1 at ha' hb'
  refine ⟨by decide, ?_⟩
  simp only [atI20, ha', hb', List.length_map]
  cases cells with
  | nil =>
    simp only [List.length_nil, Int.natCast_zero, Int.lt_irrefl, decide_false, Bool.false_eq_true, if_false]
    subst hT
    exact tail2_ok hab hk hl h0 h1 h2 (Int.le_refl 0) ha' hb' (.inl rfl)
  | cons z0 zs =>
    have hpos : (0 : Int) < (((z0 :: zs).length : Nat) : Int) := by simp only [List.length_cons]; omega
    simp only [hpos, decide_true, if_true, atI21, true_and]
    walk_at "rdx"
    generalize hr : ((k : Int) + 1) % ((zs.length + 1 : Nat) : Int) = r
    have e1 : 0 ≤ r := by rw [← hr]; exact Int.emod_nonneg _ (by omega)
    have e2 : r < (((z0 :: zs).length : Nat) : Int) := by rw [← hr, List.length_cons]; exact Int.emod_lt_of_pos _ (by omega)
    obtain ⟨z, hz, hm⟩ := atI_nat (xs := z0 :: zs) e1 e2
    have hz' : L2.atI ((z0 :: zs).map D.int) r = some (.int z) := by
      unfold L2.atI at hz ⊢
      rw [List.length_map]
      cases q : L2.ixN (z0 :: zs).length r with
      | none => rw [q] at hz; cases hz
      | some j =>
        rw [q] at hz
        show ((z0 :: zs).map D.int)[j]? = _
        rw [List.getElem?_map]
        rw [show (z0 :: zs)[j]? = some z from hz]
        rfl
    rw [hz']
    subst hT
    exact tail2_ok hab hk hl h0 h1 h2 (h0 z hm) ha' hb' (.inr ⟨e1, e2⟩)
end PD
end

section
/-! PD31: dicts whose keys are tuples of any depth: in, [], []=, get, setdefault, len, displays. -/
namespace PD
open PySem PySem.Spec PyProof.Rows L2
/-- a key that is a tuple -/
def keyT : D → Option NestedKey
  | .tup xs => (nksOf xs).map .tup
  | _ => none
theorem keyT_nk {d : D} {k : NestedKey} (h : keyT d = some k) : nkOf d = some k := by
  cases d <;> first | cases h | skip
  exact h
theorem keyT_ref {K : PySem.W.Frag} {G : Addr → Prop} {S : HD} {H : Hp} {d : D} {v : V} {k : NestedKey} (h : keyT d = some k) (q : RD K G S H d v) : ∃ b, v = .ref b := by
  cases q <;> first | cases h | skip
  exact ⟨_, rfl⟩
def getT : List (D × D) → NestedKey → Option D
  | [], _ => none
  | (d, v) :: r, k => if nkOf d = some k then some v else getT r k
def hasT (kds : List (D × D)) (k : NestedKey) : Bool := (getT kds k).isSome
def putT (kds : List (D × D)) (kd : D) (k : NestedKey) (v : D) : List (D × D) :=
  if hasT kds k = true then kds.map (fun kv => if nkOf kv.1 = some k then (kv.1, v) else kv) else kds ++ [(kd, v)]
def tdOf (S : HD) : D → Option (World × List (D × D))
  | .ref a => (match S.hp a with
    | some (.dct w kds) => some (w, kds)
    | _ => none)
  | _ => none
section
variable {P : Program} {w : World} {K : PySem.W.Frag} {G : Addr → Prop} {S : HD} {H : Hp} {h : Heap}
mutual
theorem nested_of (ok : HOk P w H h) (hK : K.In h) : ∀ {d : D} {v : V} {u : Value} {nk : NestedKey}, RD K G S H d v → RelV v u → nkOf d = some nk → NestedIs h nk u
  | _, _, _, _, .non, r, e => by cases e; obtain rfl : _ = Value.none := r; exact .none
  | _, _, _, _, .bl b, r, e => by cases e; obtain rfl : _ = Value.bool b := r; exact .bool rfl
  | _, _, _, _, .int i, r, e => by cases e; obtain ⟨t, rfl⟩ := (show ∃ t, _ = Value.int i t from r); exact .int _ _
  | _, _, _, _, .str x, r, e => by cases e; obtain ⟨t, rfl⟩ := (show ∃ t, _ = Value.str x t from r); exact .text _ _
  | _, _, _, _, .ty n, r, e => by cases e
  | _, _, _, _, .ref a, r, e => by cases e
  | _, _, _, _, .lst _ _, r, e => by cases e
  | _, _, _, _, .dic _ _, r, e => by cases e
  | _, _, _, _, .deck _, r, e => by cases e
  | _, _, u, nk, @RD.tup _ _ _ _ a vs ds hf q, r, e => by
    have e' : (nksOf ds).map NestedKey.tup = some nk := e
    obtain ⟨ks, hks, rfl⟩ := Option.map_eq_some_iff.mp e'
    obtain rfl : u = Value.ref a := r
    rcases hf with ⟨_, rd⟩ | ⟨o, its, n, lk, hc, hd, _, vr⟩
    · obtain ⟨_, its, r', o, h1, h2, n, h3⟩ := (show ObjOk P w H h a (.tup vs) from rd.ok ok)
      exact .tup h1 h2 h3 (by simpa using nestedAll_of ok hK q r' hks)
    · exact .tup (hK _ _ lk) hc hd (nestedAll_of ok hK q vr hks)
theorem nestedAll_of (ok : HOk P w H h) (hK : K.In h) : ∀ {ds : List D} {vs : List V} {us : List Value} {ks : List NestedKey}, RDs K G S H ds vs → Vals vs us → nksOf ds = some ks → NestedAll h ks us
  | _, _, _, _, .nil, r, e => by cases e; cases r; exact .nil
  | _, _, _, ks, @RDs.cons _ _ _ _ d v ds vs q qs, r, e => by
    have e' : ((nkOf d).bind fun k => (nksOf ds).map (k :: ·)) = some ks := e
    obtain ⟨k, hk, e2⟩ := Option.bind_eq_some_iff.mp e'
    obtain ⟨ks', hks, rfl⟩ := Option.map_eq_some_iff.mp e2
    cases r with
    | cons r rs => exact .cons (nested_of ok hK q r hk) (nestedAll_of ok hK qs rs hks)
end
end
def KeyOk (K : PySem.W.Frag) (H : Hp) (nk : NestedKey) (b : Addr) : Prop := nk.depth ≤ 8 ∧ ∀ (P : Program) (w : World) (h : Heap), HOk P w H h → K.In h → NestedIs h nk (.ref b)
def KeysOk (K : PySem.W.Frag) (H : Hp) (xs : List (NestedKey × Addr × Value)) : Prop := ∀ x ∈ xs, KeyOk K H x.1 x.2.1
section
variable {K : PySem.W.Frag} {G : Addr → Prop} {S : HD} {H : Hp}
theorem keyOk_of {d : D} {b : Addr} {nk : NestedKey} (q : RD K G S H d (.ref b)) (e : nkOf d = some nk) (hd : nk.depth ≤ 8) : KeyOk K H nk b :=
  ⟨hd, fun P w h ok hK => nested_of ok hK q rfl e⟩
theorem keysOk_of : ∀ {kds : List (D × D)} {xs : List (NestedKey × Addr × Value)}, RDt K G S H kds xs → KeysOk K H xs
  | _, _, .nil => fun _ hx => nomatch hx
  | _, _, .cons hk hn hd _ _ r => fun x hx => by
    rcases List.mem_cons.mp hx with e | hx
    · subst e; exact keyOk_of hk hn hd
    · exact keysOk_of r x hx
theorem rdt_get : ∀ {kds : List (D × D)} {xs : List (NestedKey × Addr × Value)} (k : NestedKey), RDt K G S H kds xs → (getT kds k = none ∧ atKey xs k = none) ∨ ∃ d b v u, getT kds k = some d ∧ atKey xs k = some (b, u) ∧ RelV v u ∧ RD K G S H d v
  | _, _, k, .nil => .inl ⟨rfl, rfl⟩
  | _, _, k, @RDt.cons _ _ _ _ kd d nk b v u kds xs hk hn hd hv h r => by
    by_cases e : nk = k
    · subst e
      exact .inr ⟨d, b, v, u, by simp [getT, hn], by simp [atKey], hv, h⟩
    · have e1 : getT ((kd, d) :: kds) k = getT kds k := by
        simp only [getT, hn]
        exact if_neg fun q => e (Option.some.inj q)
      have e2 : atKey ((nk, b, u) :: xs) k = atKey xs k := by simp [atKey, List.find?_cons, e]
      rw [e1, e2]
      exact rdt_get k r
theorem RDt.append : ∀ {a b : List (D × D)} {c d : List (NestedKey × Addr × Value)}, RDt K G S H a c → RDt K G S H b d → RDt K G S H (a ++ b) (c ++ d)
  | _, _, _, _, .nil, s => s
  | _, _, _, _, .cons hk hn hd hv h r, s => .cons hk hn hd hv h (r.append s)
theorem rdt_len : ∀ {kds : List (D × D)} {xs : List (NestedKey × Addr × Value)}, RDt K G S H kds xs → kds.length = xs.length
  | _, _, .nil => rfl
  | _, _, .cons _ _ _ _ _ r => by simp [rdt_len r]
theorem rdt_map {k : NestedKey} {x : D} {y : V} {z : Value} (q : RD K G S H x y) (rz : RelV y z) : ∀ {kds : List (D × D)} {xs : List (NestedKey × Addr × Value)}, RDt K G S H kds xs →
    RDt K G S H (kds.map fun kv => if nkOf kv.1 = some k then (kv.1, x) else kv) (xs.map (putAt k z))
  | _, _, .nil => .nil
  | _, _, @RDt.cons _ _ _ _ kd d nk b v u kds xs hk hn hd hv h r => by
    simp only [List.map_cons, hn]
    by_cases e : nk = k
    · subst e
      simp only [if_true, putAt]
      exact .cons hk hn hd rz q (rdt_map q rz r)
    · rw [if_neg fun z => e (Option.some.inj z)]
      have e2 : putAt k z (nk, b, u) = (nk, b, u) := by simp [putAt, e]
      rw [e2]
      exact .cons hk hn hd hv h (rdt_map q rz r)
theorem rdt_put {kds : List (D × D)} {xs : List (NestedKey × Addr × Value)} {kd : D} {b : Addr} {k : NestedKey} {x : D} {y : V} {z : Value} (hk : RD K G S H kd (.ref b)) (hn : nkOf kd = some k) (hd : k.depth ≤ 8) (q : RD K G S H x y) (rz : RelV y z) (r : RDt K G S H kds xs) :
    RDt K G S H (putT kds kd k x) (storedH xs k b z) := by
  unfold putT storedH hasT
  rcases rdt_get k r with ⟨e1, e2⟩ | ⟨d, b', v, u, e1, e2, _⟩
  · rw [e1, e2]
    exact r.append (.cons hk hn hd rz q .nil)
  · rw [e1, e2]
    exact rdt_map q rz r
theorem putT_len (kds : List (D × D)) (kd : D) (k : NestedKey) (z : D) : (putT kds kd k z).length ≤ kds.length + 1 := by
  unfold putT
  split <;> simp
theorem tdOf_eq {d : D} {w : World} {kds : List (D × D)} (h : tdOf S d = some (w, kds)) : ∃ a, d = .ref a ∧ S.hp a = some (.dct w kds) := by
  cases d with
  | ref a =>
    simp only [tdOf] at h
    split at h
    · rename_i w' ys e
      cases h
      exact ⟨a, rfl, e⟩
    · cases h
  | _ => cases h
theorem tdOf_ok (rh : RH K G S H) {d : D} {v : V} {w : World} {kds : List (D × D)} (h : tdOf S d = some (w, kds)) (q : RD K G S H d v) : ∃ a xs, d = .ref a ∧ S.hp a = some (.dct w kds) ∧ v = .ref a ∧ H a = some (.ext (RawT w a xs)) ∧ RDt K G S H kds xs := by
  obtain ⟨a, rfl, e⟩ := tdOf_eq h
  cases q
  obtain ⟨_, _, xs, e1, r⟩ := rh.hp a _ e
  exact ⟨a, xs, rfl, e, rfl, e1, r⟩
end
section
variable {X : Cx} {pins : List (Addr × Obj)} {σ : L2.St} {H : Hp} {s : Shared} {a : Addr} {xs : List (NestedKey × Addr × Value)}
theorem keyAt_is (I : Inv X pins σ H s) {nk : NestedKey} {b : Addr} (k : KeyOk X.K H nk b) : (nestedKind X.prog X.w).is s.heap nk b := ⟨k.2 _ _ _ I.hok I.kIn, k.1⟩
theorem td_dict (I : Inv X pins σ H s) (e : H a = some (.ext (RawT X.w a xs))) (r : KeysOk X.K H xs) : (a == sysModules) = false ∧ xs.length ≤ sizeLine ∧ s.heap.DictOfH (nestedKind X.prog X.w) a xs := by
  obtain ⟨⟨o, es, ep, h1, h2, h3, h4, h5, h6, h7⟩, _, _⟩ := (show ObjOk X.prog X.w H s.heap a (.ext (RawT X.w a xs)) from I.hok a _ e)
  exact ⟨h6, h7, o, es, ep, h1, h2, h3, h4, fun x hx => keyAt_is I (r x hx), h5⟩
theorem raw_mono (w : World) (a : Addr) (xs : List (NestedKey × Addr × Value)) : ∀ h1 h2 : Heap, RawT w a xs h1 → (∀ o, h1.get? a = some o → h2.get? a = some o) → RawT w a xs h2 := fun _ _ ⟨o, es, ep, e, r⟩ k => ⟨o, es, ep, k o e, r⟩
theorem raw_ok {P : Program} {w : World} {H' : Hp} {h' : Heap} (hd : (a == sysModules) = false) (hz : xs.length ≤ sizeLine) (dd : h'.DictOfH (nestedKind P w) a xs) : ObjOk P w H' h' a (.ext (RawT w a xs)) := by
  obtain ⟨o, es, ep, h1, h2, h3, h4, _, h5⟩ := dd
  exact ⟨⟨o, es, ep, h1, h2, h3, h4, h5, hd, hz⟩, ⟨o, h1⟩, raw_mono w a xs⟩
theorem room_nest {k : Nat} {A : Around} {P : Program} {w : World} (hr : RoomG k A) : (nestedKind P w).room A.in1 := by
  have := hr.un64
  show A.in1.units + 8 < cLine
  rw [Around.in1_units]
  omega
theorem room_nest0 {k : Nat} {A : Around} {P : Program} {w : World} (hr : RoomG k A) : (nestedKind P w).room A := by
  have := hr.un64
  show A.units + 8 < cLine
  omega
end
/-! ### in -/
def rTIn (K : PySem.W.Frag) (w : World) (neg : Bool) : R2 := fun x y H Q => ∃ a b xs nk, y = .ref a ∧ x = .ref b ∧ H a = some (.ext (RawT w a xs)) ∧ KeysOk K H xs ∧ KeyOk K H nk b ∧ Q (.bl (if neg then !(atKey xs nk).isSome else (atKey xs nk).isSome)) H
def rInW (w : World) (neg : Bool) : R2D := fun x y S Q => match tdOf S y with
  | some (w', kds) => (match keyT x with
    | some nk => w' = w ∧ nk.depth ≤ 8 ∧ Q (.bl (if neg then !hasT kds nk else hasT kds nk)) S
    | none => False)
  | none => rInY neg x y S Q
section
variable {X : Cx} {o i e a b : Expr} {to ti te ta tb : TED} {pos pos' : Pos} {k : Nat}
theorem op_tIn (hr : RoomG k X.A) : OpR X (compareOp .In) (rTIn X.K X.w false) := by
  intro pins s σ H x y v u Q I rx ry ⟨a, b, xs, nk, e1, e2, h, ks, ki, q⟩
  subst e1 e2
  obtain rfl : v = Value.ref b := rx
  obtain rfl : u = Value.ref a := ry
  obtain ⟨hd, hz, dd⟩ := td_dict I h ks
  exact wpAny_in_heap (knd := nestedKind X.prog X.w) (room_nest hr) (keyAt_is I ki) hd dd ⟨.bl (atKey xs nk).isSome, H, I.tok _, rfl, q⟩
theorem op_tNotIn (hr : RoomG k X.A) : OpR X (compareOp .NotIn) (rTIn X.K X.w true) := by
  intro pins s σ H x y v u Q I rx ry ⟨a, b, xs, nk, e1, e2, h, ks, ki, q⟩
  subst e1 e2
  obtain rfl : v = Value.ref b := rx
  obtain rfl : u = Value.ref a := ry
  obtain ⟨hd, hz, dd⟩ := td_dict I h ks
  refine notIn_keyed (knd := nestedKind X.prog X.w) (room_nest hr) (keyAt_is I ki) hd ⟨xs, dd, rfl⟩ ⟨.bl (!(atKey xs nk).isSome), H, I.tok _, ?_, q⟩
  rw [valueAt_pairsH, Option.isSome_map]
  rfl
theorem inW2 {K : PySem.W.Frag} (w : World) (neg : Bool) : Op2 K (fun x y H Q => ((rIn K neg x y H Q ∨ rDIn neg x y H Q) ∨ rNoneIn neg x y H Q) ∨ rTIn K w neg x y H Q) (rInW w neg) := fun G S H d1 d2 v1 v2 Qd Q rh q1 q2 t p => by
  unfold rInW at t
  split at t
  · rename_i w' kds e
    split at t
    · rename_i nk ek
      obtain ⟨rfl, hd, t⟩ := t
      obtain ⟨a, xs, rfl, _, rfl, e1, r⟩ := tdOf_ok rh e q2
      obtain ⟨b, rfl⟩ := keyT_ref ek q1
      refine .inr ⟨a, b, xs, nk, rfl, rfl, e1, keysOk_of r, keyOk_of q1 (keyT_nk ek) hd, p.here rh ?_ t⟩
      have e3 : (atKey xs nk).isSome = hasT kds nk := by
        unfold hasT
        rcases rdt_get nk r with ⟨z1, z2⟩ | ⟨d, b', v, u, z1, z2, _⟩ <;> rw [z1, z2] <;> rfl
      rw [e3]
      exact .bl _
    · exact t.elim
  · exact .inl (inY2 neg G S H _ _ v1 v2 Qd Q rh q1 q2 t p)
theorem de_inW (hr : RoomG k X.A) (ha : DE X a ta) (hb : DE X b tb) (hm : behindInMarks .In b = false := by rfl) : DE X (.Compare a [.In] [b] pos) (tBin (rInW X.w false) ta tb) := de_cmp (((op_in_seq.or (op_inD hr.un1)).or op_noneIn).or (op_tIn hr)) (inW2 X.w false) ha hb hm
theorem de_notInW (hr : RoomG k X.A) (ha : DE X a ta) (hb : DE X b tb) (hm : behindInMarks .NotIn b = false := by rfl) : DE X (.Compare a [.NotIn] [b] pos) (tBin (rInW X.w true) ta tb) := de_cmp (((op_notIn_seq.or (op_notInD hr.un1)).or op_noneNotIn).or (op_tNotIn hr)) (inW2 X.w true) ha hb hm
theorem dt_inW (hr : RoomG k X.A) (ha : DE X a ta) (hb : DE X b tb) (hm : behindInMarks .In b = false := by rfl) : DT X (.Compare a [.In] [b] pos) (tTst (tBin (rInW X.w false) ta tb)) := dt_cmp (((op_in_seq.or (op_inD hr.un1)).or op_noneIn).or (op_tIn hr)) (inW2 X.w false) ha hb hm
theorem dt_notInW (hr : RoomG k X.A) (ha : DE X a ta) (hb : DE X b tb) (hm : behindInMarks .NotIn b = false := by rfl) : DT X (.Compare a [.NotIn] [b] pos) (tTst (tBin (rInW X.w true) ta tb)) := dt_cmp (((op_notIn_seq.or (op_notInD hr.un1)).or op_noneNotIn).or (op_tNotIn hr)) (inW2 X.w true) ha hb hm
/-! ### [] -/
def rTIx (K : PySem.W.Frag) (w : World) : R2 := fun x y H Q => ∃ a b xs nk c u v, x = .ref a ∧ y = .ref b ∧ H a = some (.ext (RawT w a xs)) ∧ KeysOk K H xs ∧ KeyOk K H nk b ∧ atKey xs nk = some (c, u) ∧ RelV v u ∧ Q v H
theorem ix_tdict (hr : RoomG k X.A) : IxR X (rTIx X.K X.w) := by
  intro value slice pins s σ H x y v u Q I rx ry ⟨a, b, xs, nk, c, u', v', e1, e2, h, ks, ki, l, rv, q⟩ hs
  subst e1 e2
  obtain rfl : v = Value.ref a := rx
  obtain rfl : u = Value.ref b := ry
  obtain ⟨hd, hz, dd⟩ := td_dict I h ks
  exact tail_any (ops := [.ref a, .ref b]) dd.typeIs PySem.F.slot_dict_getitem.lookup (wpAny_getItem_heap (knd := nestedKind X.prog X.w) (room_nest hr) (keyAt_is I ki) dd l ⟨v', H, I.tok _, rv, q⟩) hs
def rIxW (w : World) : R2D := fun x y S Q => match tdOf S x with
  | some (w', kds) => (match keyT y with
    | some nk => w' = w ∧ nk.depth ≤ 8 ∧ (match getT kds nk with
      | some v => Q v S
      | none => False)
    | none => False)
  | none => rIxX x y S Q
theorem ixW2 {K : PySem.W.Frag} (w : World) : Op2 K (fun x y H Q => (rIx K x y H Q ∨ rDIx x y H Q) ∨ rTIx K w x y H Q) (rIxW w) := fun G S H d1 d2 v1 v2 Qd Q rh q1 q2 t p => by
  unfold rIxW at t
  split at t
  · rename_i w' kds e
    split at t
    · rename_i nk ek
      obtain ⟨rfl, hd, t⟩ := t
      obtain ⟨a, xs, rfl, _, rfl, e1, r⟩ := tdOf_ok rh e q1
      obtain ⟨b, rfl⟩ := keyT_ref ek q2
      rcases rdt_get nk r with ⟨z1, z2⟩ | ⟨d, b', v, u, z1, z2, z3, z4⟩
      · rw [z1] at t; exact t.elim
      · rw [z1] at t
        exact .inr ⟨a, b, xs, nk, b', u, v, rfl, rfl, e1, keysOk_of r, keyOk_of q2 (keyT_nk ek) hd, z2, z3, p.here rh z4 t⟩
    · exact t.elim
  · exact .inl (ixX2 G S H d1 d2 v1 v2 Qd Q rh q1 q2 t p)
theorem de_ixW (hr : RoomG k X.A) (ha : DE X a ta) (hb : DE X b tb) (hs : PlainIx b := by exact fun _ _ => rfl) : DE X (.Subscript a b pos) (tBin (rIxW X.w) ta tb) := (pe_ix ((ix_seq.or (ix_dic hr.un1)).or (ix_tdict hr)) ha hb hs).imp (up_bin (ixW2 X.w))
/-! ### []= -/
def rTSet (K : PySem.W.Frag) (w : World) : TSet := fun o i v H Q => ∃ a b xs nk, o = .ref a ∧ i = .ref b ∧ H a = some (.ext (RawT w a xs)) ∧ KeysOk K H xs ∧ KeyOk K H nk b ∧ xs.length < sizeLine ∧ ∀ u, RelV v u → Q (upd H a (.ext (RawT w a (storedH xs nk b u))))
theorem set_tdict (hr : RoomG k X.A) : PSet X (rTSet X.K X.w) := by
  intro pins s σ H o i v ov iv u Q I ro ri rv ⟨a, b, xs, nk, e1, e2, h, ks, ki, hl, q⟩
  subst e1 e2
  obtain rfl : ov = Value.ref a := ro
  obtain rfl : iv = Value.ref b := ri
  obtain ⟨hd, hz, dd⟩ := td_dict I h ks
  refine wpAny_setItem_heap (knd := nestedKind X.prog X.w) (room_nest hr) (keyAt_is I ki) dd (fun h' dd' hs => ?_) (hsz := hz)
  have he : ∃ q, h'.get? a = some q := let ⟨q, _, _, hq, _⟩ := dd'; ⟨q, hq⟩
  have hz' : (storedH xs nk b u).length ≤ sizeLine := by have := storedH_length xs nk b u; omega
  exact ⟨_, d_write I (by rw [h]; exact True.intro) hs he (raw_ok hd hz' dd'), q u rv⟩
def rSetW (w : World) (o i v : D) (S : HD) (Q : HD → Prop) : Prop := match tdOf S o with
  | some (w', kds) => (match keyT i with
    | some nk => w' = w ∧ nk.depth ≤ 8 ∧ kds.length < 16000000 ∧ (match o with
      | .ref a => Q (S.set a (.dct w (putT kds i nk v)))
      | _ => False)
    | none => False)
  | none => rSetX o i v S Q
def gSubW (w : World) (to ti : TED) : TGD := fun v σ S Q => to σ S fun o S1 => ti σ S1 fun i S2 => rSetW w o i v S2 fun S3 => Q σ S3
theorem RH.writeT {K : PySem.W.Frag} {G : Addr → Prop} {S : HD} {H : Hp} {w : World} (rh : RH K G S H) {a : Addr} {o : OD} {ys : List (D × D)} {ws : List (NestedKey × Addr × Value)} (h : S.hp a = some o) (r : RDt K G S H ys ws) : RH K G (S.set a (.dct w ys)) (upd H a (.ext (RawT w a ws))) ∧ FL S H (S.set a (.dct w ys)) (upd H a (.ext (RawT w a ws))) := by
  have m : Mv G S H G (S.set a (.dct w ys)) (upd H a (.ext (RawT w a ws))) := ⟨fun b o e z => by
    have ne : b ≠ a := fun q => by rw [← q, z.1] at h; cases h
    exact ⟨⟨by rw [HD.set_ne ne]; exact z.1, z.2.1, z.2.2⟩, by rw [upd_ne ne]; exact e⟩, fun _ e => e⟩
  exact rh.write h ⟨ws, upd_same, r.mv m⟩
theorem dg_subW (hr : RoomG k X.A) (ho : DE X o to) (hi : DE X i ti)
    (ha : ∀ v, assign (.Subscript o i pos) X.env v = (do
      let ov ← holding [v] (eval o X.env)
      let iv ← holding [v, ov] (eval i X.env)
      standAt pos
      holding [v, ov, iv] (setItem ov iv v)
      release [v, ov, iv] []) := by intro _; rfl) : DG X (.Subscript o i pos) (gSubW X.w to ti) :=
  (pg_sub ho hi (PSet.or (PSet.or set_list (set_dict hr.un1)) (set_tdict hr)) ha).imp fun v σ H Q ⟨G, σd, S, d, Qd, rs, rh, q, t, p⟩ =>
    ⟨G, σd, S, _, rs, rh, t, fun S1 d1 v1 H1 f1 rh1 q1 t1 => ⟨G, σd, S1, _, rs.fl f1, rh1, t1, fun S2 d2 v2 H2 f2 rh2 q2 t2 => by
      unfold rSetW at t2
      split at t2
      · rename_i w' kds e
        split at t2
        · rename_i nk ek
          obtain ⟨rfl, hd, hl, t2⟩ := t2
          obtain ⟨a, xs, rfl, e0, rfl, e1, r⟩ := tdOf_ok rh2 e (q1.fl f2)
          obtain ⟨b, rfl⟩ := keyT_ref ek q2
          have hlen := rdt_len r
          have hsl : (sizeLine : Nat) = 16777216 := rfl
          refine .inr ⟨a, b, xs, nk, rfl, rfl, e1, keysOk_of r, keyOk_of q2 (keyT_nk ek) hd, by omega, fun u ru => ?_⟩
          obtain ⟨rh', f'⟩ := rh2.writeT e0 (rdt_put q2 (keyT_nk ek) hd (q.fl (f1.trans f2)) ru r)
          exact p _ _ _ _ (f1.trans (f2.trans f')) rh' (rs.fl (f1.trans (f2.trans f'))) t2
        · exact t2.elim
      · rename_i hn
        clear hn
        refine .inl ?_
        unfold rSetX at t2
        split at t2
        · rename_i a
          split at t2
          · rename_i kds k e ek
            cases q1
            obtain ⟨_, _, ws, e1, r⟩ := rh2.hp _ _ e
            obtain ⟨rh', f'⟩ := rh2.writeD e (rdk_put k (q.fl (f1.trans f2)) r)
            refine .inr ⟨a, _, rfl, .inl ⟨ws, k, e1, key_v ek q2, ?_, rfl⟩, p _ _ _ _ (f1.trans (f2.trans f')) rh' (rs.fl (f1.trans (f2.trans f'))) t2.2⟩
            have := rdk_len r
            have : (sizeLine : Nat) = 16777216 := rfl
            omega
          · rename_i xs j e ek
            split at t2
            · rename_i n en
              have e2 := keyOf_eq ek
              subst e2
              cases q1
              cases q2
              obtain ⟨_, _, ws, e1, r⟩ := rh2.hp _ _ e
              obtain ⟨rh', f'⟩ := rh2.writeL e (r.set (q.fl (f1.trans f2)) n)
              exact .inl ⟨a, ws, j, n, rfl, rfl, e1, by rw [← r.length]; exact en, p _ _ _ _ (f1.trans (f2.trans f')) rh' (rs.fl (f1.trans (f2.trans f'))) t2⟩
            · exact t2.elim
          · exact t2.elim
        · exact t2.elim⟩⟩
/-! ### len -/
def rLenTD (X : Cx) (w : World) : List V → Hp → VK → Prop := fun vs H Q => ∃ (a : Addr) (xs : List (NestedKey × Addr × Value)), vs = [.ref a] ∧ H a = some (.ext (RawT w a xs)) ∧ KeysOk X.K H xs ∧ Q (.int ((xs.length : Nat) : Int)) H
theorem call_lenT : CallR X (.builtin "len") (rLenTD X X.w) := by
  intro pins s σ H xs us Q I r ⟨a, ys, e0, h, ks, q⟩
  subst e0
  obtain ⟨u, rfl, rx⟩ := vals1 r
  obtain rfl : u = .ref a := rx
  obtain ⟨hd, hz, dd⟩ := td_dict I h ks
  have hsl : (sizeLine : Nat) = 16777216 := rfl
  exact call_len_dictH (knd := nestedKind X.prog X.w) hd dd (by omega) ⟨.int ((ys.length : Nat) : Int), H, I.tok _, ⟨_, rfl⟩, q⟩
def rLenK : List V → Hp → VK → Prop := fun vs H Q => ∃ (a : Addr) (kvs : List (Key × V)), vs = [.ref a] ∧ Rd H a (.dK kvs) ∧ Q (.int ((kvs.length : Nat) : Int)) H
theorem call_lenK : CallR X (.builtin "len") rLenK := by
  intro pins s σ H xs us Q I r ⟨a, ys, e0, h, q⟩
  subst e0
  obtain ⟨u, rfl, rx⟩ := vals1 r
  obtain rfl : u = .ref a := rx
  exact d_len I h fun t s' I' => ⟨.int ((ys.length : Nat) : Int), H, I', ⟨_, rfl⟩, q⟩
def rLenW (w : World) : SpD := fun ds S Q => match ds with
  | [x] => (match tdOf S x with
    | some (w', kds) => w' = w ∧ Q (.int (kds.length : Nat)) S
    | none => (match asDic S x with
      | some kds => Q (.int (kds.length : Nat)) S
      | none => rLenD [x] S Q))
  | _ => False
theorem call_lenW : CallRD X (.builtin "len") (rLenW X.w) := by
  intro pins s σ H vs us ds G S Qd Q I rv rd rh t p
  unfold rLenW at t
  split at t
  · rename_i x
    split at t
    · rename_i w' kds e
      obtain ⟨rfl, t⟩ := t
      cases rd with
      | cons q1 r1 =>
        cases r1
        obtain ⟨a, xs, rfl, _, rfl, e1, r⟩ := tdOf_ok rh e q1
        refine call_lenT pins s σ H _ us Q I rv ⟨a, xs, rfl, e1, keysOk_of r, ?_⟩
        rw [← rdt_len r]
        exact p.here rh (.int _) t
    · split at t
      · rename_i kds e
        cases rd with
        | cons q1 r1 =>
          cases r1
          obtain ⟨a, kvs, rfl, r0, r⟩ := asDic_ok rh e q1
          refine call_lenK pins s σ H _ us Q I rv ⟨a, kvs, rfl, r0, ?_⟩
          rw [← rdk_len r]
          exact p.here rh (.int _) t
      · exact call_lenRD pins s σ H vs us _ G S Qd Q I rv rd rh t p
  · exact t.elim
end
end PD
end

section
/-! PD32: methods of dicts of any keys; displays of dicts that change. -/
namespace PD
open PySem PySem.Spec PyProof.Rows L2
/-- a dict, whatever its keys -/
def IsDV (w : World) (H : Hp) (a : Addr) : Prop := (∃ kvs, Rd H a (.dK kvs)) ∨ ∃ xs, H a = some (.ext (RawT w a xs))
section
variable {X : Cx} {pins : List (Addr × Obj)} {σ : L2.St} {H : Hp} {s : Shared} {a : Addr}
theorem isDV_at (I : Inv X pins σ H s) (d : IsDV X.w H a) : s.TypeIs (.ref a) "dict" ∧ (∀ b, Value.ref a = .ref b → ∃ ob, s.heap.get? b = some ob ∧ ob.dict = none) := by
  rcases d with ⟨kvs, e⟩ | ⟨xs, e⟩
  · obtain ⟨_, hd, vs, _, dd⟩ := dk_rd I.hok e
    refine ⟨dd.typeIs, fun b q => ?_⟩
    cases q
    obtain ⟨ob, _, _, h1, h2, _⟩ := dd
    exact ⟨ob, h1, h2.2.1⟩
  · obtain ⟨⟨o, es, ep, h1, h2, _⟩, _, _⟩ := (show ObjOk X.prog X.w H s.heap a (.ext (RawT X.w a xs)) from I.hok a _ e)
    refine ⟨⟨o, h1, h2.1⟩, fun b q => ?_⟩
    cases q
    exact ⟨o, h1, h2.2.1⟩
end
def tBMD (w : World) (r : V → List V → Hp → VK → Prop) (to : TE) (t : TA) : TE := fun σ H Q => to σ H fun x H1 => (∃ a, x = .ref a ∧ IsDV w H1 a) ∧ t σ H1 fun xs H2 => r x xs H2 Q
section
variable {X : Cx} {o e : Expr} {es : List Expr} {to : TE} {t : TA} {name : Str} {apos cpos : Pos} {id : String} {r : V → List V → Hp → VK → Prop}
theorem pe_bmD (slot : Slot "dict" name id) (hty : typeOf (.builtin id) = pure (.type "method_descriptor")) (hm : MtR X id r) (ho : PE X o to) (ha : PA X (e :: es) t)
    (hbase : attributeBase o name X.env (eval o X.env) = eval o X.env := by rfl)
    (hfew : ((backTo cpos (starEach (e :: es) X.env)).all (fun x => !x.1) && (backToKw cpos (keywordEach [] X.env)).all (fun x => x.1.isSome)
      && decide ((e :: es).length + ([] : List Keyword).length + (if ([] : List Keyword).isEmpty then 0 else 1) < 30)) = true := by rfl)
    (hline : (apos.endLine == cpos.line) = true := by rfl) (hs : starEach (e :: es) X.env = (false, eval e X.env) :: starEach es X.env := by rfl) (hplain : (backTo cpos (starEach es X.env)).any (·.1) = false := by rfl) :
    PE X (.Call (.Attribute o name apos) (e :: es) [] cpos) (tBMD X.w r to t) := by
  refine ⟨fun pins s σ H Q I h => ?_⟩
  refine wpAny_Call_method_late hbase hfew hline rfl (thn (ho.run pins s σ H _ I h) fun v s1 ⟨x, H1, I1, r1, ⟨a, ex, ty⟩, q1⟩ => ?_)
  subst ex
  obtain rfl : v = Value.ref a := r1
  obtain ⟨h1, h2⟩ := isDV_at I1 ty
  refine ⟨"dict", id, PySem.F.plainAttrs_dict, slot, hty, h1, h2, ?_⟩
  have hA := ha.run cpos pins s1 σ H1 _ I1 q1
  rw [hs] at hA ⊢
  refine Calls.callWith_builtin (by show (false || (backTo cpos (starEach es X.env)).any (·.1)) = false; rw [hplain] <;> rfl) (Calls.evalArgs_plain ?_)
  exact thn hA fun us s2 ⟨vs, H2, I2, r2, q2⟩ => hm pins s2 σ H2 (.ref a) vs (.ref a) us Q I2 rfl r2 q2
end
/-- a dict of any kind, deep -/
def isDic (w : World) (S : HD) (d : D) : Prop := (∃ kds, asDic S d = some kds) ∨ ∃ kds, tdOf S d = some (w, kds)
def tMethW (w : World) (rd : D → List D → HD → QD → Prop) (to : TED) (ta : TAD) : TED := fun σ S Q => to σ S fun x S1 => isDic w S1 x ∧ ta σ S1 fun ds S2 => rd x ds S2 Q
section
variable {K : PySem.W.Frag} {G : Addr → Prop} {S : HD} {H : Hp}
theorem isDic_ok {w : World} (rh : RH K G S H) {d : D} {v : V} (h : isDic w S d) (q : RD K G S H d v) : ∃ a, v = .ref a ∧ IsDV w H a := by
  rcases h with ⟨kds, e⟩ | ⟨kds, e⟩
  · obtain ⟨p, kvs, rfl, r0, _⟩ := asDic_ok rh e q
    exact ⟨p, rfl, .inl ⟨kvs, r0⟩⟩
  · obtain ⟨a, xs, _, _, rfl, e1, _⟩ := tdOf_ok rh e q
    exact ⟨a, rfl, .inr ⟨xs, e1⟩⟩
end
section
variable {X : Cx} {o e : Expr} {es : List Expr} {to te : TED} {tA : TAD} {name : Str} {apos cpos pos : Pos}
theorem de_methW {id : String} {r : V → List V → Hp → VK → Prop} {rd : D → List D → HD → QD → Prop} (slot : Slot "dict" name id) (hty : typeOf (.builtin id) = pure (.type "method_descriptor")) (hm : MtR X id r)
    (i : ∀ G S H d v ds vs Qd Q, RH X.K G S H → RD X.K G S H d v → RDs X.K G S H ds vs → rd d ds S Qd → Post X.K G S H Qd Q → r v vs H Q) (ho : DE X o to) (ha : DA X (e :: es) tA)
    (hbase : attributeBase o name X.env (eval o X.env) = eval o X.env := by rfl)
    (hfew : ((backTo cpos (starEach (e :: es) X.env)).all (fun x => !x.1) && (backToKw cpos (keywordEach [] X.env)).all (fun x => x.1.isSome)
      && decide ((e :: es).length + ([] : List Keyword).length + (if ([] : List Keyword).isEmpty then 0 else 1) < 30)) = true := by rfl)
    (hline : (apos.endLine == cpos.line) = true := by rfl) (hs : starEach (e :: es) X.env = (false, eval e X.env) :: starEach es X.env := by rfl) (hplain : (backTo cpos (starEach es X.env)).any (·.1) = false := by rfl) :
    DE X (.Call (.Attribute o name apos) (e :: es) [] cpos) (tMethW X.w rd to tA) :=
  (pe_bmD slot hty hm ho ha hbase hfew hline hs hplain).imp fun σ H Q ⟨G, σd, S, Qd, rs, rh, t, p⟩ => ⟨G, σd, S, _, rs, rh, t, fun S1 d v H1 f1 rh1 q1 ⟨hl, t1⟩ =>
    ⟨isDic_ok rh1 hl q1, G, σd, S1, _, rs.fl f1, rh1, t1, fun S2 ds vs H2 f2 rh2 q2 t2 => i G S2 H2 _ _ ds vs _ _ rh2 (q1.fl f2) q2 t2 (p.fl (f1.trans f2))⟩⟩
/-! ### get -/
def rGet (K : PySem.W.Frag) (w : World) : V → List V → Hp → VK → Prop := fun x vs H Q => ∃ a y z, x = .ref a ∧ (vs = [y] ∧ z = V.non ∨ vs = [y, z]) ∧
  ((∃ ov, DGet H a y ov ∧ Q (ov.getD z) H) ∨ (∃ b xs nk, y = .ref b ∧ H a = some (.ext (RawT w a xs)) ∧ KeysOk K H xs ∧ KeyOk K H nk b ∧ (∀ c u v, atKey xs nk = some (c, u) → RelV v u → Q v H) ∧ (atKey xs nk = none → Q z H) ∧ ∀ c u, atKey xs nk = some (c, u) → ∃ v, RelV v u) ∨
   ∃ kvs, y = .non ∧ Rd H a (.dK kvs) ∧ Q z H)
theorem mt_getW {k : Nat} (hr : RoomG k X.A) : MtR X "dict.get" (rGet X.K X.w) := by
  intro pins s σ H x xs v us Q I rx rs ⟨a, y, z, e1, e2, h⟩
  subst e1
  obtain rfl : v = Value.ref a := rx
  have key : ∀ (r : Value) (u : Value), RelV y u → RelV z r → (us = [u] ∧ r = Value.none ∨ us = [u, r]) → wpAny (model X.prog X.w) X.A (call (.builtin "dict.get") (.ref a :: us)) (EP X pins σ Q) X.xe s := by
    intro r u ry rz eu
    rcases h with ⟨ov, g, q⟩ | ⟨b, ys, nk, rfl, hx, ks, ki, q1, q2, q3⟩ | ⟨kvs, rfl, hx, q⟩
    · rcases eu with ⟨rfl, rfl⟩ | rfl
      · have ez : z = .non := by
          rcases e2 with ⟨_, e⟩ | e
          · exact e
          · subst e; have := rs.length; simp at this
        subst ez
        exact d_get1 hr.un1 I g ry fun w' s' I' rw' => ⟨_, H, I', rw', q⟩
      · exact d_get2 hr.un1 I g ry rz fun w' s' I' rw' => ⟨_, H, I', rw', q⟩
    · obtain rfl : u = Value.ref b := ry
      obtain ⟨hd, hz, dd⟩ := td_dict I hx ks
      have fin : EP X pins σ Q (((atKey ys nk).map (·.2)).getD r) { s with toks := s.toks + (nestedKind X.prog X.w).draws nk } := by
        cases hk : atKey ys nk with
        | none => exact ⟨z, H, I.tok _, rz, q2 hk⟩
        | some p =>
          obtain ⟨c, u⟩ := p
          obtain ⟨v', rv'⟩ := q3 c u hk
          exact ⟨v', H, I.tok _, rv', q1 c u v' hk rv'⟩
      rcases eu with ⟨rfl, rfl⟩ | rfl
      · exact call_meetsIn PySem.F.slot_dict_get dd.typeIs PySem.F.entry_dict_get (PySem.F.args_dict_get_2 _ _) (meetsH_dict_get (nestedKind X.prog X.w) a b hd) ⟨room_nest hr, nk, ys, keyAt_is I ki, dd, fin⟩
      · exact call_meetsIn PySem.F.slot_dict_get dd.typeIs PySem.F.entry_dict_get (PySem.F.args_dict_get_3 _ _ _) (meetsH_dict_get_default (nestedKind X.prog X.w) a b hd r) ⟨room_nest hr, nk, ys, keyAt_is I ki, dd, fin⟩
    · obtain rfl : u = Value.none := ry
      obtain ⟨hd, f, hm, hf⟩ := none_map I hx
      rcases eu with ⟨rfl, rfl⟩ | rfl
      · refine call_meetsIn PySem.F.slot_dict_get hm.typeIs PySem.F.entry_dict_get (PySem.F.args_dict_get_2 _ _) (meets_dict_get (leafKind X.prog X.w) a (k := Leaf.none) rfl hd) ⟨f, hm, ?_⟩
        rw [hf]
        exact ⟨z, H, I.tok _, rz, q⟩
      · refine call_meetsIn PySem.F.slot_dict_get hm.typeIs PySem.F.entry_dict_get (PySem.F.args_dict_get_3 _ _ _) (meets_dict_get_default (leafKind X.prog X.w) a (k := Leaf.none) rfl hd r) ⟨f, hm, ?_⟩
        rw [hf]
        exact ⟨z, H, I.tok _, rz, q⟩
  rcases e2 with ⟨rfl, rfl⟩ | rfl
  · obtain ⟨u, rfl, ru⟩ := rs.one
    exact key .none u ru rfl (.inl ⟨rfl, rfl⟩)
  · cases rs with
    | cons r1 rs =>
      cases rs with
      | cons r2 rs =>
        cases rs
        exact key _ _ r1 r2 (.inr rfl)
def rGetAt (w : World) (x y z : D) (S : HD) (Q : QD) : Prop := match tdOf S x with
  | some (w', kds) => (match keyT y with
    | some nk => w' = w ∧ nk.depth ≤ 8 ∧ Q ((getT kds nk).getD z) S
    | none => False)
  | none => (match asDic S x with
    | some kds => (match y with
      | .non => Q z S
      | y => (match keyOf y with
        | some k => Q ((getK kds k).getD z) S
        | none => False))
    | none => False)
def rGetW (w : World) : D → List D → HD → QD → Prop := fun x ds S Q => match ds with
  | [y] => rGetAt w x y .non S Q
  | [y, z] => rGetAt w x y z S Q
  | _ => False
theorem getAt_ok {G : Addr → Prop} {S : HD} {H : Hp} {x y z : D} {v vy vz : V} {vs : List V} {Qd : QD} {Q : VK} (rh : RH X.K G S H) (q1 : RD X.K G S H x v) (q2 : RD X.K G S H y vy) (q3 : RD X.K G S H z vz) (hv : vs = [vy] ∧ vz = V.non ∨ vs = [vy, vz]) (t : rGetAt X.w x y z S Qd) (p : Post X.K G S H Qd Q) : rGet X.K X.w v vs H Q := by
  unfold rGetAt at t
  split at t
  · rename_i w' kds e
    split at t
    · rename_i nk ek
      obtain ⟨rfl, hd, t⟩ := t
      obtain ⟨a, xs, rfl, _, rfl, e1, r⟩ := tdOf_ok rh e q1
      obtain ⟨b, rfl⟩ := keyT_ref ek q2
      refine ⟨a, _, vz, rfl, hv, .inr (.inl ⟨b, xs, nk, rfl, e1, keysOk_of r, keyOk_of q2 (keyT_nk ek) hd, ?_⟩)⟩
      rcases rdt_get nk r with ⟨z1, z2⟩ | ⟨d, b', v', u, z1, z2, z3, z4⟩
      · rw [z1] at t
        exact ⟨fun c u v' hk => (by rw [z2] at hk; cases hk), fun _ => p.here rh q3 t, fun c u hk => (by rw [z2] at hk; cases hk)⟩
      · rw [z1] at t
        refine ⟨fun c u2 v2 hk rv => ?_, fun hk => (by rw [z2] at hk; cases hk), fun c u2 hk => ?_⟩
        · rw [z2] at hk; cases hk
          have : v2 = v' := RelV.inj rv z3
          subst this
          exact p.here rh z4 t
        · rw [z2] at hk; cases hk
          exact ⟨v', z3⟩
    · exact t.elim
  · split at t
    · rename_i kds e
      obtain ⟨a, kvs, rfl, r0, r⟩ := asDic_ok rh e q1
      split at t
      · cases q2
        exact ⟨a, _, vz, rfl, hv, .inr (.inr ⟨kvs, rfl, r0, p.here rh q3 t⟩)⟩
      · split at t
        · rename_i k ek
          have := key_v ek q2
          subst this
          refine ⟨a, _, vz, rfl, hv, .inl ⟨valV kvs k, .inl ⟨kvs, k, r0, rfl, rfl⟩, ?_⟩⟩
          rcases rdk_get k r with ⟨z1, z2⟩ | ⟨d, v', z1, z2, z3⟩
          · rw [z1] at t; rw [z2]
            exact p.here rh q3 t
          · rw [z1] at t; rw [z2]
            exact p.here rh z3 t
        · exact t.elim
    · exact t.elim
theorem getW_ok : ∀ G S H d v ds vs Qd Q, RH X.K G S H → RD X.K G S H d v → RDs X.K G S H ds vs → rGetW X.w d ds S Qd → Post X.K G S H Qd Q → rGet X.K X.w v vs H Q := by
  intro G S H d v ds vs Qd Q rh q1 q2 t p
  unfold rGetW at t
  split at t
  · cases q2 with
    | cons a r => cases r; exact getAt_ok rh q1 a .non (.inl ⟨rfl, rfl⟩) t p
  · cases q2 with
    | cons a r => cases r with
      | cons b r => cases r; exact getAt_ok rh q1 a b (.inr rfl) t p
  · exact t.elim
theorem de_getW {k : Nat} (hr : RoomG k X.A) (ho : DE X o to) (ha : DA X (e :: es) tA) (hbase : attributeBase o "get" X.env (eval o X.env) = eval o X.env := by rfl)
    (hfew : ((backTo cpos (starEach (e :: es) X.env)).all (fun x => !x.1) && (backToKw cpos (keywordEach [] X.env)).all (fun x => x.1.isSome)
      && decide ((e :: es).length + ([] : List Keyword).length + (if ([] : List Keyword).isEmpty then 0 else 1) < 30)) = true := by rfl)
    (hline : (apos.endLine == cpos.line) = true := by rfl) (hs : starEach (e :: es) X.env = (false, eval e X.env) :: starEach es X.env := by rfl) (hplain : (backTo cpos (starEach es X.env)).any (·.1) = false := by rfl) :
    DE X (.Call (.Attribute o "get" apos) (e :: es) [] cpos) (tMethW X.w (rGetW X.w) to tA) := de_methW PySem.F.slot_dict_get PySem.F.type_dict_get (mt_getW hr) getW_ok ho ha hbase hfew hline hs hplain
/-! ### setdefault -/
def rSetdV (K : PySem.W.Frag) (w : World) : V → List V → Hp → VK → Prop := fun x vs H Q => ∃ a y z, x = .ref a ∧ vs = [y, z] ∧
  ((∃ kvs k, H a = some (.dK kvs) ∧ y = kV k ∧ kvs.length < sizeLine ∧ (∀ v, valV kvs k = some v → Q v H) ∧ (valV kvs k = none → Q z (upd H a (.dK (putK kvs k z))))) ∨
   (∃ b xs nk, y = .ref b ∧ H a = some (.ext (RawT w a xs)) ∧ KeysOk K H xs ∧ KeyOk K H nk b ∧ xs.length < sizeLine ∧ (∀ c u, atKey xs nk = some (c, u) → ∃ v, RelV v u ∧ Q v H) ∧ (atKey xs nk = none → ∀ u, RelV z u → Q z (upd H a (.ext (RawT w a (storedH xs nk b u)))))))
theorem mt_setdW {k : Nat} (hr : RoomG k X.A) : MtR X "dict.setdefault" (rSetdV X.K X.w) := by
  intro pins s σ H x xs v us Q I rx rs ⟨a, y, z, e1, e2, h⟩
  subst e1 e2
  obtain rfl : v = Value.ref a := rx
  cases rs with
  | @cons _ u _ _ ry rs =>
    cases rs with
    | @cons _ r _ _ rz rs =>
      cases rs
      rcases h with ⟨kvs, k, hx, rfl, hl, q1, q2⟩ | ⟨b, ys, nk, rfl, hx, ks, ki, hl, q1, q2⟩
      · exact d_setd I hx ry rz hl (fun v hv w' s' I' rw' => ⟨v, _, I', rw', q1 v hv⟩) fun hn w' s' I' rw' => ⟨z, _, I', rw', q2 hn⟩
      · obtain rfl : u = Value.ref b := ry
        obtain ⟨hd, hz, dd⟩ := td_dict I hx ks
        refine call_setdefault_heap (knd := nestedKind X.prog X.w) (room_nest hr) (keyAt_is I ki) hd dd (fun p hp => ?_) (fun hn h' dd' hs => ?_) (hsz := hz)
        · obtain ⟨c, u⟩ := p
          obtain ⟨v', rv', q⟩ := q1 c u hp
          exact ⟨v', H, I.tok _, rv', q⟩
        · have he : ∃ q, h'.get? a = some q := let ⟨q, _, _, hq, _⟩ := dd'; ⟨q, hq⟩
          have hz' : (storedH ys nk b r).length ≤ sizeLine := by have := storedH_length ys nk b r; omega
          exact ⟨z, _, d_write I (by rw [hx]; exact True.intro) hs he (raw_ok hd hz' dd'), rz, q2 hn r rz⟩
def rSetdW (w : World) : D → List D → HD → QD → Prop := fun x ds S Q => match x, ds with
  | .ref a, [y, z] => (match S.hp a with
    | some (.dct w' kds) => (match keyT y with
      | some nk => w' = w ∧ nk.depth ≤ 8 ∧ kds.length < 16000000 ∧ (match getT kds nk with
        | some v => Q v S
        | none => Q z (S.set a (.dct w (putT kds y nk z))))
      | none => False)
    | some (.dic kds) => (match keyOf y with
      | some k => kds.length < 16000000 ∧ (match getK kds k with
        | some v => Q v S
        | none => Q z (S.set a (.dic (putD kds k z))))
      | none => False)
    | _ => False)
  | _, _ => False
theorem RelV.ex {K : PySem.W.Frag} {G : Addr → Prop} {S : HD} {H : Hp} {d : D} {v : V} (q : RD K G S H d v) : True := trivial
theorem setdW_ok : ∀ G S H d v ds vs Qd Q, RH X.K G S H → RD X.K G S H d v → RDs X.K G S H ds vs → rSetdW X.w d ds S Qd → Post X.K G S H Qd Q → rSetdV X.K X.w v vs H Q := by
  intro G S H d v ds vs Qd Q rh q1 q2 t p
  have hsl : (sizeLine : Nat) = 16777216 := rfl
  unfold rSetdW at t
  split at t
  · rename_i a y z
    cases q2 with
    | cons qy r => cases r with
      | cons qz r =>
        cases r
        split at t
        · rename_i w' kds e
          split at t
          · rename_i nk ek
            obtain ⟨rfl, hd, hl, t⟩ := t
            cases q1
            obtain ⟨_, _, xs, e1, r⟩ := rh.hp a _ e
            obtain ⟨b, rfl⟩ := keyT_ref ek qy
            have hlen := rdt_len r
            refine ⟨a, _, _, rfl, rfl, .inr ⟨b, xs, nk, rfl, e1, keysOk_of r, keyOk_of qy (keyT_nk ek) hd, by omega, ?_⟩⟩
            rcases rdt_get nk r with ⟨z1, z2⟩ | ⟨d, b', v', u, z1, z2, z3, z4⟩
            · rw [z1] at t
              refine ⟨fun c u hk => (by rw [z2] at hk; cases hk), fun _ u ru => ?_⟩
              obtain ⟨rh', f'⟩ := rh.writeT e (rdt_put qy (keyT_nk ek) hd qz ru r)
              exact p _ _ _ _ f' rh' (qz.fl f') t
            · rw [z1] at t
              refine ⟨fun c u hk => ?_, fun hk => (by rw [z2] at hk; cases hk)⟩
              rw [z2] at hk; cases hk
              exact ⟨v', z3, p.here rh z4 t⟩
          · exact t.elim
        · rename_i kds e
          split at t
          · rename_i k ek
            obtain ⟨hl, t⟩ := t
            cases q1
            obtain ⟨_, _, kvs, e1, r⟩ := rh.hp a _ e
            have := key_v ek qy
            subst this
            have hlen := rdk_len r
            refine ⟨a, _, _, rfl, rfl, .inl ⟨kvs, k, e1, rfl, by omega, ?_⟩⟩
            rcases rdk_get k r with ⟨z1, z2⟩ | ⟨d, v', z1, z2, z3⟩
            · rw [z1] at t
              refine ⟨fun v' hk => (by rw [z2] at hk; cases hk), fun _ => ?_⟩
              obtain ⟨rh', f'⟩ := rh.writeD e (rdk_put k qz r)
              exact p _ _ _ _ f' rh' (qz.fl f') t
            · rw [z1] at t
              refine ⟨fun v2 hk => ?_, fun hk => (by rw [z2] at hk; cases hk)⟩
              rw [z2] at hk; cases hk
              exact p.here rh z3 t
          · exact t.elim
        · exact t.elim
  · exact t.elim
theorem de_setdW {k : Nat} (hr : RoomG k X.A) (ho : DE X o to) (ha : DA X (e :: es) tA) (hbase : attributeBase o "setdefault" X.env (eval o X.env) = eval o X.env := by rfl)
    (hfew : ((backTo cpos (starEach (e :: es) X.env)).all (fun x => !x.1) && (backToKw cpos (keywordEach [] X.env)).all (fun x => x.1.isSome)
      && decide ((e :: es).length + ([] : List Keyword).length + (if ([] : List Keyword).isEmpty then 0 else 1) < 30)) = true := by rfl)
    (hline : (apos.endLine == cpos.line) = true := by rfl) (hs : starEach (e :: es) X.env = (false, eval e X.env) :: starEach es X.env := by rfl) (hplain : (backTo cpos (starEach es X.env)).any (·.1) = false := by rfl) :
    DE X (.Call (.Attribute o "setdefault" apos) (e :: es) [] cpos) (tMethW X.w (rSetdW X.w) to tA) := de_methW PySem.F.slot_dict_setdefault PySem.F.type_dict_setdefault (mt_setdW hr) setdW_ok ho ha hbase hfew hline hs hplain
end
end PD
end

section
/-! PD33: displays of dicts that change; list(d); len(set(xs)); a dict is frozen. -/
namespace PD
open PySem PySem.Spec PyProof.Rows L2
section
variable {K : PySem.W.Frag} {G : Addr → Prop} {S S1 S2 : HD} {H H1 H2 : Hp} {q : Addr} {od : OD}
theorem res_mvT (h : S2.hp q = none) : Mv (Res G q) S2 H2 G (S2.set q od) H2 := ⟨fun a o e z => by
    have ne : a ≠ q := fun w => z.2.2 (.inr w)
    exact ⟨⟨by rw [HD.set_ne ne]; exact z.1, z.2.1, fun g => z.2.2 (.inl g)⟩, e⟩, fun _ e => e⟩
/-- the held place is tracked from now on -/
theorem res_track (rh1 : RH K G S1 H1) (hq : H1 q = none) (f2 : FL S1 H1 S2 H2) (rh2 : RH K (Res G q) S2 H2) (rod : ROD K G (S2.set q od) H2 q od) : RH K G (S2.set q od) H2 ∧ FL S1 H1 (S2.set q od) H2 := by
  have n2 := (RH.resFree rh2).1
  have d2 := (RH.resFree rh2).2
  have ngq : ¬ G q := fun g => by
    obtain ⟨⟨o, e⟩, _⟩ := rh1.rs q g
    rw [hq] at e; cases e
  refine ⟨⟨fun a u e => ?_, fun a g => rh2.rs a (.inl g), fun a b e => ?_⟩, ⟨fun a o e n d => by
    obtain ⟨n', d', e'⟩ := f2.kp a o e n d
    exact ⟨by rw [HD.set_ne (ne_of_none e hq)]; exact n', d', e'⟩, f2.dk⟩⟩
  · by_cases ha : a = q
    · subst ha
      rw [HD.set_same] at e; cases e
      exact ⟨d2, ngq, rod⟩
    · rw [HD.set_ne ha] at e
      obtain ⟨h1, h2, h3⟩ := rh2.hp a u e
      exact ⟨h1, fun g => h2 (.inl g), h3.mv (res_mvT n2) rfl⟩
  · obtain ⟨h1, h2, h3, h4⟩ := rh2.dk a b e
    have na : a ≠ q := fun z => d2 ⟨_, e, .inl z.symm⟩
    have nb : b ≠ q := fun z => d2 ⟨_, e, .inr z.symm⟩
    exact ⟨h1, by rw [HD.set_ne na]; exact h2, by rw [HD.set_ne nb]; exact h3, h4⟩
theorem res_trackD {kds : List (D × D)} {kvs : List (Key × V)} (rh1 : RH K G S1 H1) (hq : H1 q = none) (f2 : FL S1 H1 S2 H2) (rh2 : RH K (Res G q) S2 H2) (e : H2 q = some (.dK kvs)) (r : RDk K (Res G q) S2 H2 kds kvs) : RH K G (S2.set q (.dic kds)) H2 ∧ FL S1 H1 (S2.set q (.dic kds)) H2 :=
  res_track rh1 hq f2 rh2 ⟨kvs, e, r.mv (res_mvT (RH.resFree rh2).1)⟩
theorem res_trackT {w : World} {kds : List (D × D)} {xs : List (NestedKey × Addr × Value)} (rh1 : RH K G S1 H1) (hq : H1 q = none) (f2 : FL S1 H1 S2 H2) (rh2 : RH K (Res G q) S2 H2) (e : H2 q = some (.ext (RawT w q xs))) (r : RDt K (Res G q) S2 H2 kds xs) : RH K G (S2.set q (.dct w kds)) H2 ∧ FL S1 H1 (S2.set q (.dct w kds)) H2 :=
  res_track rh1 hq f2 rh2 ⟨xs, e, r.mv (res_mvT (RH.resFree rh2).1)⟩
end
/-- a tracked dict is frozen -/
theorem Cv.frzD {a : Addr} {S : HD} {xs : List (D × D)} (h : S.hp a = some (.dic xs)) : Cv (.ref a) S (.dic xs) (S.del a) := fun K G H v r q => by
  obtain ⟨h1, h2, vs, h3, h4⟩ := r.hp a _ h
  cases q
  exact ⟨r.le (del_le S a), (del_le S a).fl, .dic ⟨⟨by simp [HD.del], fun z => h1 ((del_le S a).dkE.mp z), h2⟩, .inl h3⟩ (h4.mv (del_le S a).mv)⟩
theorem fin.frzD {Q : QD} {a : Addr} {S S' : HD} {xs : List (D × D)} (h : S'.hp a = some (.dic xs)) (l : HLe S (S'.del a)) (q : Q (.dic xs) S) : fin Q (.ref a) S' := ⟨S, _, (Cv.frzD h).trans (.le l), q⟩
/-- {k: v, ..}, a dict that is to change -/
def tDispR (trs : List (TED × TED)) : TED := fun σ S Q => tPairsD trs σ S fun ps S2 => ps.length ≤ 15 ∧ ∀ q, S2.hp q = none → Q (.ref q) (S2.set q (.dic (putAll ps [])))
section
variable {X : Cx} {pos : Pos} {keys : List (Option Expr)} {values : List Expr} {trs : List (TED × TED)} {k v : Expr} {tk tv : TED}
theorem de_dispR (h : DPs X pos keys values trs) (hall : keys.all (·.isSome) = true := by rfl) (hl : keys.length = values.length := by rfl) (h0 : keys ≠ [] := by simp) (h15 : keys.length ≤ 15 := by decide) : DE X (.Dict keys values pos) (tDispR trs) :=
  (pe_disp h hall hl h0 h15).imp fun σ H Q ⟨G, σd, S, Qd, rs, rh, t, p⟩ => fun q hq => by
    refine pairs_up trs (G := Res G q) (rs.mv (res_in hq)) (rh.res hq _) t fun S' H' ps kvs f' rh' q' ⟨hl15, t'⟩ => ?_
    have fr := RH.resFree (rh.res hq (.dK []))
    have pk := (f'.kp q _ upd_same fr.1 fr.2).2.2
    have hlen : kvs.length = ps.length := by
      have := rdk_len q'
      unfold rKV at this
      rw [List.length_map] at this
      exact this.symm
    refine ⟨pk, kvs, rfl, by omega, ?_⟩
    have f2 : FL S H S' (upd H' q (.dK (mergeK [] kvs))) := (((Grow.upd hq).fl (S := S)).trans f').updp hq
    have rr := putAll_rel ps q' (.nil (K := X.K) (G := Res G q) (S := S') (H := H'))
    have rh2 := rh'.resW (p := q) (.dK (mergeK [] kvs))
    obtain ⟨rh3, f3⟩ := res_trackD rh hq f2 rh2 upd_same (rr.mv res_mv)
    exact p _ _ _ _ f3 rh3 (.ref q) (t' q (RH.resFree rh').1)
/-- {k: v}, the key a tuple -/
def tDisp1T (w : World) (tk tv : TED) : TED := fun σ S Q => tk σ S fun x S1 => tv σ S1 fun y S2 => match keyT x with
  | some nk => nk.depth ≤ 8 ∧ ∀ q, S2.hp q = none → Q (.ref q) (S2.set q (.dct w [(x, y)]))
  | none => False
def tDisp1V (K : PySem.W.Frag) (w : World) (tk tv : TE) : TE := fun σ H Q => ∀ p, H p = none → tk σ (upd H p (.ext (RawT w p []))) fun x H1 => tv σ H1 fun y H2 => H2 p = some (.ext (RawT w p [])) ∧ ∃ b nk, x = .ref b ∧ KeyOk K H2 nk b ∧ ∀ u, RelV y u → Q (.ref p) (upd H2 p (.ext (RawT w p [(nk, b, u)])))
theorem pe_disp1 {n : Nat} {tk tv : TE} (hr : RoomG n X.A) (hk : PE X k tk) (hv : PE X v tv) : PE X (.Dict [some k] [v] pos) (tDisp1V X.K X.w tk tv) := by
  refine ⟨fun pins s σ H Q I q => ?_⟩
  have hn := I.hok.fresh (Nat.le_refl s.heap.objs.size)
  have hd : (s.heap.objs.size == sysModules) = false := beq_eq_false_iff_ne.mpr (Ne.symm (Nat.ne_of_lt I.big))
  have I1 := I.laid (a := s.heap.objs.size) (o := .ext (RawT X.w s.heap.objs.size [])) (h' := s.heap.push { cls := .type "dict", data := .dict #[] }) (t' := s.toks) (fun _ _ q => Heap.get?_push_of_some _ q) (Nat.le_refl _)
    (raw_ok (P := X.prog) hd (Nat.zero_le _) (Heap.DictOfH.new s.heap))
  rw [arm_eval_Dict, zip_pairTrees [some k] [v] X.env pos rfl rfl, dictDisplay_pairs _ (by simp [pairTrees]) (by simp [pairTrees])]
  refine wpAny_bind (wpAny_standAt (wpAny_bind (wpAny_subDictH (knd := nestedKind X.prog X.w) (Q := fun d s' => wpAny (model X.prog X.w) X.A (pure (Value.ref d)) (EP X pins σ Q) X.xe s') (room_nest0 hr) (by simp [pairTrees]) ?_)))
  refine pairTrees_cons_walk (thn (hk.run pins _ σ _ _ I1 (q _ hn)) fun kv s1 ⟨x, H1, I2, rx, q1⟩ => thn (hv.run pins s1 σ H1 _ I2 q1) fun vv s2 ⟨y, H2, I3, ry, pk, b, nk, ex, ki, qf⟩ => pairTrees_nil_walk ?_)
  subst ex
  obtain rfl : kv = Value.ref b := rx
  obtain ⟨hd2, _, dd0⟩ := td_dict I3 pk (fun _ hx => nomatch hx)
  refine ⟨[(nk, b, vv)], ⟨rfl, rfl, keyAt_is I3 ki, trivial⟩, dd0, fun h' tk dd' hs => wpAny_pure ⟨.ref s.heap.objs.size, _, ?_, rfl, qf vv ry⟩⟩
  have he : ∃ q, h'.get? s.heap.objs.size = some q := let ⟨q, _, _, hq, _⟩ := dd'; ⟨q, hq⟩
  have e1 : storedAllH ([] : List (NestedKey × Addr × Value)) [(nk, b, vv)] = [(nk, b, vv)] := rfl
  rw [e1] at dd'
  exact d_write I3 (by rw [pk]; exact True.intro) hs he (raw_ok hd2 (by show 1 ≤ sizeLine; decide) dd')
theorem de_disp1 {n : Nat} (hr : RoomG n X.A) (hk : DE X k tk) (hv : DE X v tv) : DE X (.Dict [some k] [v] pos) (tDisp1T X.w tk tv) :=
  (pe_disp1 hr hk hv).imp fun σ H Q ⟨G, σd, S, Qd, rs, rh, t, p⟩ => fun q hq => by
    refine ⟨Res G q, σd, S, _, rs.mv (res_in hq), rh.res hq _, t, fun S1 x vx H1 f1 rh1 q1 t1 => ⟨Res G q, σd, S1, _, (rs.mv (res_in hq)).fl f1, rh1, t1, fun S2 y vy H2 f2 rh2 q2 t2 => ?_⟩⟩
    split at t2
    · rename_i nk ek
      obtain ⟨hd, t2⟩ := t2
      obtain ⟨b, rfl⟩ := keyT_ref ek q1
      have q1' := q1.fl f2
      have fr := RH.resFree (rh.res hq (.ext (RawT X.w q [])))
      have pk := ((f1.trans f2).kp q _ upd_same fr.1 fr.2).2.2
      refine ⟨pk, b, nk, rfl, keyOk_of q1' (keyT_nk ek) hd, fun u ru => ?_⟩
      have f3 : FL S H S2 (upd H2 q (.ext (RawT X.w q [(nk, b, u)]))) := (((Grow.upd hq).fl (S := S)).trans (f1.trans f2)).updp hq
      have rr : RDt X.K (Res G q) S2 H2 [(x, y)] [(nk, b, u)] := .cons q1' (keyT_nk ek) hd ru q2 .nil
      have rh3 := rh2.resW (p := q) (.ext (RawT X.w q [(nk, b, u)]))
      obtain ⟨rh4, f4⟩ := res_trackT rh hq f3 rh3 upd_same (rr.mv res_mv)
      exact p _ _ _ _ f4 rh4 (.ref q) (t2 q (RH.resFree rh2).1)
    · exact t2.elim
/-! ### list(d): the keys -/
def rListW (w : Bool) : SpD := fun ds S Q => match ds with
  | [.ref a] => (match S.hp a with
    | some (.dic kds) => if w = true then ∀ p, S.hp p = none → Q (.ref p) (S.set p (.lst (kds.map (·.1)))) else Q (.lst (kds.map (·.1))) S
    | _ => if w = true then rListR [.ref a] S Q else rListV [.ref a] S Q)
  | ds => if w = true then rListR ds S Q else rListV ds S Q
theorem rdk_keys {K : PySem.W.Frag} {G : Addr → Prop} {S : HD} {H : Hp} : ∀ {kds : List (D × D)} {kvs : List (Key × V)}, RDk K G S H kds kvs → RDs K G S H (kds.map (·.1)) (kvs.map fun kv => kV kv.1)
  | _, _, .nil => .nil
  | _, _, @RDk.cons _ _ _ _ k _ _ _ _ _ r => .cons (match k with | .inl i => .int i | .inr x => .str x) (rdk_keys r)
theorem call_listW (hc : X.calm = true) (w : Bool) : CallRD X (.type "list") (rListW w) := by
  intro pins s σ H vs us ds G S Qd Q I rv rd rh t p
  unfold rListW at t
  split at t
  · rename_i a
    split at t
    · rename_i kds e
      obtain ⟨_, _, kvs, e1, r⟩ := rh.hp a _ e
      cases rd with
      | cons q1 r1 =>
        cases r1
        cases q1
        refine call_list_dK hc pins s σ H _ us Q I rv ⟨a, kvs, rfl, e1, fun q hq => ?_⟩
        cases w with
        | true => exact p.newR rh (rdk_keys r) (by simpa using t) hq
        | false => exact p.newL rh (rdk_keys r) (by simpa using t) hq
    · cases w with
      | true => exact call_listR pins s σ H vs us _ G S Qd Q I rv rd rh (by simpa using t) p
      | false => exact call_listV pins s σ H vs us _ G S Qd Q I rv rd rh (by simpa using t) p
  · cases w with
    | true => exact call_listR pins s σ H vs us _ G S Qd Q I rv rd rh (by simpa using t) p
    | false => exact call_listV pins s σ H vs us _ G S Qd Q I rv rd rh (by simpa using t) p
/-! ### len(set(xs)) of whole numbers -/
/-- the items that are met first -/
def dist (ns : List Int) : List Int := ns.foldl (fun acc n => if acc.any (· == n) then acc else acc ++ [n]) []
theorem firstMet_fold (ns : List Int) : ∀ i, i ≤ ns.length → PyProof.Rows.firstMet (fun i => ns.getD i 0) i = dist (ns.take i)
  | 0, _ => rfl
  | i + 1, hi => by
    have hlt : i < ns.length := hi
    have e1 : ns.getD i 0 = ns[i] := by
      rw [List.getD_eq_getElem?_getD, List.getElem?_eq_getElem hlt] <;> rfl
    have e2 : ns.take (i + 1) = ns.take i ++ [ns[i]] := by
      rw [List.take_add_one, List.getElem?_eq_getElem hlt] <;> rfl
    have ih := firstMet_fold ns i (Nat.le_of_lt hlt)
    rw [PyProof.Rows.firstMet_succ, ih, e2]
    unfold dist
    rw [List.foldl_append, List.foldl_cons, List.foldl_nil, e1]
    rfl
def tLenSetD (te : TED) : TED := fun σ S Q => te σ S fun x S1 => match asLst S1 x with
  | some xs => (match intsOf xs with
    | some ns => ns.length ≤ 4000 ∧ Q (.int ((dist ns).length : Nat)) S1
    | none => False)
  | none => False
def tLenSetV (K : PySem.W.Frag) (ta : TE) : TE := fun σ H Q => ta σ H fun x H1 => ∃ (l : Addr) (ns : List Int), x = .ref l ∧ SqL K H1 l (ns.map V.int) ∧ ns.length ≤ 4000 ∧ Q (.int ((dist ns).length : Nat)) H1
theorem dist_le (ns : List Int) : (dist ns).length ≤ ns.length := by
  have key : ∀ (ns acc : List Int), (ns.foldl (fun acc n => if acc.any (· == n) then acc else acc ++ [n]) acc).length ≤ acc.length + ns.length := by
    intro ns
    induction ns with
    | nil => intro acc; simp
    | cons n ns ih =>
      intro acc
      rw [List.foldl_cons]
      refine Nat.le_trans (ih _) ?_
      split <;> simp <;> omega
  have := key ns []
  rw [List.length_nil, Nat.zero_add] at this
  exact this
theorem pe_lenSetV {a : Expr} {ta : TE} {p p2 q pos : Pos} (hg : Gl X "len") (hm : X.mg "len" = none) (hg2 : Gl X "set") (hm2 : X.mg "set" = none) (ha : PE X a ta) (hc : X.calm = true := by rfl)
    (na : starEach [a] X.env = (false, eval a X.env) :: starEach [] X.env := by rfl) : PE X (.Call (.Name "len" p) [.Call (.Name "set" p2) [a] [] q] [] pos) (tLenSetV X.K ta) := by
  refine ⟨fun pins s σ H Q I h => ?_⟩
  refine Call_ (ld_blt I hg hm boot_len ?_)
  refine PyProof.Rows.callWith_builtin1 (PyProof.Rows.args_cons ?_ rfl) rfl rfl
  refine Call_ (ld_blt I hg2 hm2 boot_set ?_)
  refine PyProof.Rows.callWith_type1 (PyProof.Rows.args_cons (thn (ha.run pins s σ H _ I h) fun v s1 ⟨x, H1, I1, r1, q1⟩ => PyProof.Rows.args_nil ?_) na) na rfl
  obtain ⟨l, ns, rfl, hq, hl, q1⟩ := q1
  cases r1
  obtain ⟨its, r, pl, hz⟩ := I1.list hq
  have hlen : its.toArray.size = ns.length := by rw [List.size_toArray, ← r.length, List.length_map]
  refine call_set_list (I1.ok.hd hc) pl.isList (by simpa using RZ.intsAre_vals r) (by rw [hlen]; unfold scanBound; omega) fun h' tk hS hk => ?_
  refine PyProof.Rows.args_nil ?_
  rw [hlen, firstMet_fold ns ns.length (Nat.le_refl _), List.take_length] at hS
  obtain ⟨o, es, ep, t, ho, hex, hd, _, _, _, hf, hn⟩ := hS
  have I2 : Inv X pins σ H1 { s1 with heap := h', toks := tk } := I1.kept fun b o e => hk b o (Heap.lt_size e) e
  have := dist_le ns
  exact call_len_set ho hex hd hf (by rw [hn] <;> omega) ⟨.int (dist ns).length, H1, I2.tok _, ⟨_, by rw [hn]⟩, q1⟩
theorem de_lenSet {a : Expr} {ta : TED} {p p2 q pos : Pos} (hm : X.mg "len" = none) (hm2 : X.mg "set" = none) (ha : DE X a ta) (hg : Gl X "len" := by rfl) (hg2 : Gl X "set" := by rfl) (hc : X.calm = true := by rfl)
    (na : starEach [a] X.env = (false, eval a X.env) :: starEach [] X.env := by rfl) : DE X (.Call (.Name "len" p) [.Call (.Name "set" p2) [a] [] q] [] pos) (tLenSetD ta) :=
  (pe_lenSetV hg hm hg2 hm2 ha hc na).imp fun σ H Q ⟨G, σd, S, Qd, rs, rh, t, p⟩ => ⟨G, σd, S, _, rs, rh, t, fun S1 d v H1 f1 rh1 q1 t1 => by
    split at t1
    · rename_i xs e
      split at t1
      · rename_i ns e2
        obtain ⟨a, ws, rfl, l, r⟩ := asLst_ok rh1 e q1
        rw [intsOf_eq e2] at r
        rw [rds_ints r] at l
        exact ⟨a, ns, rfl, l, t1.1, (p.fl f1).here rh1 (.int _) t1.2⟩
      · exact t1.elim
    · exact t1.elim⟩
end
end PD
end

section
/-! PD34: telling otherwise ahead of a statement; {} of any kind; a module's tuples; unpacking lists. -/
namespace PD
open PySem PySem.Spec PyProof.Rows L2
/-- the same slots, told otherwise -/
def CvS (σ : SD) (S : HD) (σ' : SD) (S' : HD) : Prop := ∀ (K : PySem.W.Frag) (G : Addr → Prop) (H : Hp) (τ : L2.St), RH K G S H → RSl K G S H σ τ → RH K G S' H ∧ FL S H S' H ∧ RSl K G S' H σ' τ
theorem CvS.refl (σ : SD) (S : HD) : CvS σ S σ S := fun _ _ _ _ r s => ⟨r, .refl _ _, s⟩
theorem CvS.trans {σ σ1 σ2 : SD} {S S1 S2 : HD} (a : CvS σ S σ1 S1) (b : CvS σ1 S1 σ2 S2) : CvS σ S σ2 S2 := fun K G H τ r s =>
  let ⟨r1, f1, s1⟩ := a K G H τ r s; let ⟨r2, f2, s2⟩ := b K G H τ r1 s1; ⟨r2, f1.trans f2, s2⟩
theorem CvS.slot {σ : SD} {S S' : HD} {i : Nat} {d d' : D} (h : gt σ i = some d) (c : Cv d S d' S') : CvS σ S (st σ i d') S' := fun K G H τ r s => by
  obtain ⟨v, h1, h2⟩ := s.sl i d (gt_some h)
  obtain ⟨r', f', q'⟩ := c K G H v r h2
  refine ⟨r', f', ?_⟩
  have s' := (s.fl f').set q' i
  rw [st_eq]
  have e : τ.set i (some v) = τ := by
    apply List.ext_getElem?
    intro j
    by_cases hj : i = j
    · subst hj
      have hi : i < τ.length := (List.getElem?_eq_some_iff.mp h1).1
      rw [List.getElem?_set_self hi, h1]
    · rw [List.getElem?_set_ne hj]
  rw [e] at s'
  exact s'
theorem CvS.frz {σ : SD} {S : HD} {i : Nat} {a : Addr} {xs : List D} (h : gt σ i = some (.ref a)) (e : S.hp a = some (.lst xs)) : CvS σ S (st σ i (.lst xs)) (S.del a) := CvS.slot h (Cv.frz e)
theorem CvS.frzD {σ : SD} {S : HD} {i : Nat} {a : Addr} {xs : List (D × D)} (h : gt σ i = some (.ref a)) (e : S.hp a = some (.dic xs)) : CvS σ S (st σ i (.dic xs)) (S.del a) := CvS.slot h (Cv.frzD e)
def sCvD (t : TSD) : TSD := fun D σ S => ∃ σ' S', CvS σ S σ' S' ∧ t D σ' S'
theorem ds_cv {X : Cx} {s : Stmt} {t : TSD} (h : DS X s t) : DS X s (sCvD t) :=
  h.imp fun D σ H ⟨G, σd, S, Dd, rs, rh, ⟨σ', S', cv, t⟩, p⟩ => let ⟨rh', f', rs'⟩ := cv _ _ _ _ rh rs; ⟨G, σ', S', Dd, rs', rh', t, p.fl f'⟩
section
variable {X : Cx} {pos : Pos} {o i e : Expr}
/-- {} with keys that are tuples -/
def tDicT (w : World) : TED := fun _ S Q => ∀ p, S.hp p = none → Q (.ref p) (S.set p (.dct w []))
theorem pe_dnewTT : PE X (.Dict [] [] pos) (fun _ H Q => ∀ p, H p = none → Q (.ref p) (upd H p (.ext (RawT X.w p [])))) := ⟨fun pins s σ H Q I h => by
  have hd : (s.heap.objs.size == sysModules) = false := beq_eq_false_iff_ne.mpr (Ne.symm (Nat.ne_of_lt I.big))
  exact wpAny_Dict_empty ⟨.ref s.heap.objs.size, _, I.laid (a := s.heap.objs.size) (o := .ext (RawT X.w s.heap.objs.size [])) (t' := s.toks) (fun _ _ q => Heap.get?_push_of_some _ q) (Nat.le_refl _)
    (raw_ok (P := X.prog) hd (Nat.zero_le _) (Heap.DictOfH.new s.heap)), rfl, h _ (I.hok.fresh (Nat.le_refl _))⟩⟩
theorem de_dicT : DE X (.Dict [] [] pos) (tDicT X.w) := pe_dnewTT.imp fun σ H Q ⟨G, σd, S, Qd, rs, rh, t, p⟩ => fun q hq => by
  obtain ⟨r', f'⟩ := rh.newR (o := .dct X.w []) (ho := .ext (RawT X.w q [])) hq ⟨[], upd_same, .nil⟩
  exact p _ _ _ _ f' r' (.ref q) (t q (rh.fresh hq).1)
def tDicW (w : World) : TED := fun σ S Q => tDicR σ S Q ∨ tDicT w σ S Q
theorem de_dicW : DE X (.Dict [] [] pos) (tDicW X.w) := ⟨fun pins s σ H Q I ⟨G, σd, S, Qd, rs, rh, t, p⟩ => t.elim (fun t => de_dicR.run pins s σ H Q I ⟨G, σd, S, Qd, rs, rh, t, p⟩) fun t => de_dicT.run pins s σ H Q I ⟨G, σd, S, Qd, rs, rh, t, p⟩⟩
/-! ### a module's tuple of flat items -/
def relB : D → Value → Bool
  | .non, .none => true
  | .bl b, .bool c => b == c
  | .int i, .int j _ => i == j
  | .str x, .str y _ => x == y
  | _, _ => false
def relsB : List D → List Value → Bool
  | [], [] => true
  | d :: ds, v :: vs => relB d v && relsB ds vs
  | _, _ => false
theorem relB_ok {K : PySem.W.Frag} {G : Addr → Prop} {S : HD} {H : Hp} : ∀ {d : D} {u : Value}, relB d u = true → RD K G S H d (toV d) ∧ RelV (toV d) u := by
  intro d u h
  cases d <;> cases u <;> first | cases h | skip
  · exact ⟨.non, rfl⟩
  · have e := eq_of_beq (show (_ == _) = true from h); subst e; exact ⟨.bl _, rfl⟩
  · have e := eq_of_beq (show (_ == _) = true from h); subst e; exact ⟨.int _, _, rfl⟩
  · have e := eq_of_beq (show (_ == _) = true from h); subst e; exact ⟨.str _, _, rfl⟩
theorem relsB_ok {K : PySem.W.Frag} {G : Addr → Prop} {S : HD} {H : Hp} : ∀ {ds : List D} {us : List Value}, relsB ds us = true → RDs K G S H ds (ds.map toV) ∧ Vals (ds.map toV) us
  | [], [], _ => ⟨.nil, .nil⟩
  | d :: ds, v :: vs, h => by
    have h' : (relB d v && relsB ds vs) = true := h
    rw [Bool.and_eq_true] at h'
    obtain ⟨a1, a2⟩ := relB_ok (K := K) (G := G) (S := S) (H := H) h'.1
    obtain ⟨b1, b2⟩ := relsB_ok (K := K) (G := G) (S := S) (H := H) h'.2
    exact ⟨.cons a1 b1, .cons a2 b2⟩
  | [], _ :: _, h => by cases h
  | _ :: _, [], h => by cases h
def KTD (K : PySem.W.Frag) (a : Addr) (ds : List D) : Prop := ∀ G S H, RD K G S H (.tup ds) (.ref a)
theorem ktd_mk {K : PySem.W.Frag} {a : Addr} {its : Array Value} {n : Nat} {dd : Option Addr} {sl : Array (Option Value)} {ds : List D} (l : K.lookup a = some ⟨.type "tuple", dd, .seq its n, sl⟩) (hz : its.size ≤ sizeLine) (h : relsB ds its.toList = true) : KTD K a ds := fun G S H =>
  let ⟨h1, h2⟩ := relsB_ok (K := K) (G := G) (S := S) (H := H) h
  .tup (.inr ⟨_, its, n, l, rfl, rfl, hz, h2⟩) h1
structure TupC (K : PySem.W.Frag) (mg : Str → Option Value) (x : Str) (ds : List D) : Prop where
  ex : ∃ a, mg x = some (.ref a) ∧ KTD K a ds
theorem tupC_mk {K : PySem.W.Frag} {h : Heap} {mg : Str → Option Value} (X : K.In h) (G : h.Ns mainGlobals mg) {x : Str} {a : Addr} {its : Array Value} {n : Nat} {dd : Option Addr} {sl : Array (Option Value)} {ds : List D}
    (y : PySem.W.nsIn K mainGlobals x = some (some (.ref a))) (l : K.lookup a = some ⟨.type "tuple", dd, .seq its n, sl⟩) (hz : decide (its.size ≤ sizeLine) = true) (h : relsB ds its.toList = true) : TupC K mg x ds := ⟨⟨a, PySem.W.mg_of X G y, ktd_mk l (of_decide_eq_true hz) h⟩⟩
theorem de_gT {x : Str} {ds : List D} (h : TupC X.K X.mg x ds) (hg : Gl X x := by rfl) (hd : (x == ("__debug__" : Str)) = false := by decide) : DE X (.Name x pos) (tCD (.tup ds)) := by
  obtain ⟨a, hm, k⟩ := h.ex
  exact de_c (pe_glob (v := .ref a) hg hm rfl hd) fun G S H => k G S H
/-! ### (a, b, ..) = a list or a tuple -/
def gSeqD (n : Nat) (t : TGsD) : TGD := fun d σ S Q => match asSeq S d with
  | some ds => ds.length = n ∧ t ds σ S Q
  | none => False
theorem dg_seq {es : List Expr} {k : Nat} {t : TGsD} {n : Nat} (hc : X.calm = true) (h : DGs X es t)
    (hn : (assignEach es X.env).length = n := by rfl) (hst : (assignEach es X.env).findIdx? (·.1) = none := by rfl) : DG X (.Tuple es k pos) (gSeqD n t) :=
  ⟨fun pins s σ H v u Q I r ⟨G, σd, S, d, Qd, rs, rh, q, tt, p⟩ => by
    unfold gSeqD at tt
    split at tt
    · rename_i ds e
      obtain ⟨a, vs, rfl, l, rr⟩ := asSeq_ok rh e q
      rcases l with l | l
      · exact (pg_unl hc h hn hst).run pins s σ H _ u Q I r ⟨a, vs, rfl, l, rr.length ▸ tt.1, G, σd, S, _, _, rs, rh, rr, tt.2, p⟩
      · exact (pg_tup hc h hn hst).run pins s σ H _ u Q I r ⟨a, vs, rfl, l, rr.length ▸ tt.1, G, σd, S, _, _, rs, rh, rr, tt.2, p⟩
    · exact tt.elim⟩
end
end PD
end

section
namespace PM
open PySem PySem.Spec PyProof.Rows L2 PD
def rd_moves_of : TSD :=
  sSeqD (sAsgD (tBin rIxX (tBin rIxX (tSlot 0) (tCD (.int 1))) (tSlot 1)) (gNameD 2))
  (sRetD (tLcV (iEnumD (tConsD (tSlot 2) (tNilD))) (gTupD 2 (gConsD (gNameD 3) (gConsD (gNameD 4) (gNilD)))) (tTst (tUnD rNotN (tSlot 4))) (tTupD (tConsD (tBin rIxX (tCD (.str "abc")) (tSlot 3)) (tConsD (tSlot 3) (tConsD (tSlot 4) (tNilD))))) [3, 4]))
def rd_is_of : TSD :=
  sSeqD (sAsgD (tCD (.int 0)) (gNameD 2))
  (sSeqD (sForD (iAnyD (tSlot 1)) (gNameD 3) (sSeqD (sAsgD (tBin rIxX (tBin rIxX (tBin rIxX (tSlot 0) (tCD (.int 1))) (tSlot 2)) (tMethS rSixD (tCD (.str "abc")) (tSlot 3))) (gNameD 2))
  (sIfD (tTst (tUnD rIsN (tSlot 2))) (sRetD (tCD (.bl false))) (sNextD))))
  (sRetD (tBin rIxX (tBin rIxX (tSlot 0) (tCD (.int 2))) (tSlot 2))))
def rd_open_layers : TSD :=
  sSeqD (sAsgD (tDcV (iEnumD (tConsD (tBin rIxX (tSlot 0) (tCD (.int 2))) (tNilD))) (gTupD 2 (gConsD (gNameD 5) (gConsD (gNameD 6) (gNilD)))) (tTst (tSlot 6)) (tSlot 5) (tCD (.bl true)) [5, 6]) (gNameD 2))
  (sSeqD (sAsgD (tLstR (tConsD (tSlot 2) (tNilD))) (gNameD 3))
  (sSeqD (sForD (iRng1D (tConsD (tSlot 1) (tNilD))) (gNameD 4) (sSeqD (sAsgD (tDcV (iEnumD (tConsD (tBin rIxX (tSlot 0) (tCD (.int 1))) (tNilD))) (gTupD 2 (gConsD (gNameD 5) (gConsD (gNameD 7) (gNilD)))) (tTst (tBin rNeD (tLcV (iAnyD (tSlot 7)) (gNameD 8) (tTst (tBin (rInY false) (tSlot 8) (tSlot 2))) (tCD (.int 1)) [8]) (tLstV (tNilD)))) (tSlot 5) (tCD (.bl true)) [5, 7]) (gNameD 2))
  (sDropD (tMethL rAppD (tSlot 3) (tConsD (tSlot 2) (tNilD))))))
  (sRetD (tSlot 3))))
def rd_told (sp_open_layers : SpD) (sp_moves_of : SpD) : TSD :=
  sSeqD (sPar2 3 4 (tConsD (tCallD sp_open_layers (tConsD (tSlot 0) (tConsD (tSlot 1) (tNilD)))) (tConsD (tLstR (tNilD)) (tNilD))))
  (sSeqD (sAsgD (tIfD (tTst (tBin (rInY false) (tCD (.int 0)) (tBin rIxX (tSlot 3) (tSlot 1)))) (tLstR (tConsD (tTupD (tConsD (tCD (.str "")) (tConsD (tCD (.int 0)) (tNilD)))) (tNilD))) (tLstR (tNilD))) (gNameD 5))
  (sSeqD (sWhileD (tAndD (tTst (tBin rNeD (tSlot 5) (tLstV (tNilD)))) (tTst (tBin (rCmpI fLt) (tCallD rLenD (tConsD (tSlot 4) (tNilD))) (tSlot 2)))) (sSeqD (sAsgD (tMethA rPopD (tSlot 5) tNilD) (gTupD 2 (gConsD (gNameD 6) (gConsD (gNameD 7) (gNilD)))))
  (sIfD (tTst (tBin rEqD (tCallD rLenD (tConsD (tSlot 6) (tNilD))) (tSlot 1))) (sDropD (tMethL rAppD (tSlot 4) (tConsD (tSlot 6) (tNilD)))) (sSeqD (sAsgD (tBin rIxX (tSlot 3) (tBin rSubD (tBin rSubD (tSlot 1) (tCallD rLenD (tConsD (tSlot 6) (tNilD)))) (tCD (.int 1)))) (gNameD 8))
  (sSeqD (sAsgD (tLcV (iAnyD (tCallD sp_moves_of (tConsD (tSlot 0) (tConsD (tSlot 7) (tNilD))))) (gTupD 3 (gConsD (gNameD 10) (gConsD (gNameD 11) (gConsD (gNameD 12) (gNilD))))) (tTst (tBin (rInY false) (tSlot 12) (tSlot 8))) (tTupD (tConsD (tBin rAddD (tSlot 6) (tSlot 10)) (tConsD (tSlot 12) (tNilD)))) [10, 11, 12]) (gNameD 9))
  (sDropD (tMethA rExtD (tSlot 5) (tConsD (tRevX (tSlot 9)) (tNilD)))))))))
  (sRetD (tCallD rTupleD (tConsD (tSlot 4) (tNilD))))))
def rd_counts : TSD :=
  sSeqD (sAsgD (tLcV (iAnyD (tBin rIxX (tSlot 0) (tCD (.int 2)))) (gNameD 5) (tYesD) (tCallD rIntD (tConsD (tSlot 5) (tNilD))) [5]) (gNameD 2))
  (sSeqD (sAsgD (tLstR (tConsD (tBin rIxX (tSlot 2) (tCD (.int 0))) (tNilD))) (gNameD 3))
  (sSeqD (sForD (iRng1D (tConsD (tSlot 1) (tNilD))) (gNameD 4) (sSeqD (sAsgD (tLcV (iAnyD (tBin rIxX (tSlot 0) (tCD (.int 1)))) (gNameD 6) (tYesD) (tCallD rSumD (tConsD (tLcV (iAnyD (tSlot 6)) (gNameD 7) (tTst (tUnD rNotN (tSlot 7))) (tBin rIxX (tSlot 2) (tSlot 7)) [7]) (tNilD))) [6]) (gNameD 2))
  (sDropD (tMethL rAppD (tSlot 3) (tConsD (tBin rIxX (tSlot 2) (tCD (.int 0))) (tNilD))))))
  (sRetD (tSlot 3))))
def rd_count (sp_counts : SpD) : TSD :=
  sRetD (tBin rIxX (tCallD sp_counts (tConsD (tSlot 0) (tConsD (tSlot 1) (tNilD)))) (tUnD rNeg (tCD (.int 1))))
def rd__law_one (sp__law_draw : SpD) : TSD :=
  sRetD (tBin rIxD (tSlot 1) (tCallD sp__law_draw (tConsD (tSlot 0) (tConsD (tCallD rLenD (tConsD (tSlot 1) (tNilD))) (tNilD)))))
def rd__law_machine (sp__law_draw : SpD) (sp__law_one : SpD) : TSD :=
  sSeqD (sAsgD (tTupD (tConsD (tBin rAddD (tCD (.int 1)) (tCallD sp__law_draw (tConsD (tSlot 0) (tConsD (tSlot 2) (tNilD))))) (tConsD (tCallD sp__law_draw (tConsD (tSlot 0) (tConsD (tCD (.int 5)) (tNilD)))) (tConsD (tLstR (tNilD)) (tNilD))))) (gTupD 3 (gConsD (gNameD 3) (gConsD (gNameD 4) (gConsD (gNameD 5) (gNilD))))))
  (sSeqD (sForD (iRng1D (tConsD (tSlot 3) (tNilD))) (gNameD 6) (sIfD (tTst (tBin rEqD (tSlot 4) (tCD (.int 0)))) (sDropD (tMethL rAppD (tSlot 5) (tConsD (tCallD rTupleD (tConsD (tLcV (iRng1D (tConsD (tSlot 1) (tNilD))) (gNameD 10) (tYesD) (tBin rModD (tCallD rIntD (tConsD (tBin rAddD (tSlot 6) (tCD (.int 1))) (tNilD))) (tSlot 3)) [10]) (tNilD))) (tNilD)))) (sIfD (tTst (tBin rEqD (tSlot 4) (tCD (.int 1)))) (sSeqD (sAsgD (tLstV (tConsD (tIfD (tTst (tBin (rCmpI fLt) (tBin rAddD (tSlot 6) (tCD (.int 1))) (tSlot 3))) (tBin rAddD (tSlot 6) (tCD (.int 1))) (tCD .non)) (tConsD (tSlot 6) (tConsD (tCD .non) (tNilD))))) (gNameD 7))
  (sDropD (tMethL rAppD (tSlot 5) (tConsD (tCallD rTupleD (tConsD (tLcV (iRng1D (tConsD (tSlot 1) (tNilD))) (gNameD 10) (tYesD) (tCallD sp__law_one (tConsD (tSlot 0) (tConsD (tSlot 7) (tNilD)))) [10]) (tNilD))) (tNilD))))) (sSeqD (sAsgD (tLcV (iRng1D (tConsD (tSlot 1) (tNilD))) (gNameD 10) (tYesD) (tCallD sp__law_draw (tConsD (tSlot 0) (tConsD (tSlot 3) (tNilD)))) [10]) (gNameD 8))
  (sDropD (tMethL rAppD (tSlot 5) (tConsD (tCallD rTupleD (tConsD (tLcV (iAnyD (tSlot 8)) (gNameD 11) (tYesD) (tIfD (tTst (tBin rEqD (tCallD sp__law_draw (tConsD (tSlot 0) (tConsD (tBin rAddD (tCD (.int 3)) (tSlot 4)) (tNilD)))) (tCD (.int 0)))) (tCD .non) (tSlot 11)) [11]) (tNilD))) (tNilD))))))))
  (sSeqD (sAsgD (tCallD sp__law_one (tConsD (tSlot 0) (tConsD (tLstV (tConsD (tCD (.int 2)) (tConsD (tCD (.int 2)) (tConsD (tCD (.int 3)) (tConsD (tCD (.int 5)) (tNilD)))))) (tNilD)))) (gNameD 9))
  (sRetD (tTupD (tConsD (tSlot 1) (tConsD (tCallD rTupleD (tConsD (tSlot 5) (tNilD))) (tConsD (tCallD rTupleD (tConsD (tLcV (iRng1D (tConsD (tSlot 3) (tNilD))) (gNameD 6) (tYesD) (tBin rEqD (tCallD sp__law_draw (tConsD (tSlot 0) (tConsD (tSlot 9) (tNilD)))) (tCD (.int 0))) [6]) (tNilD))) (tNilD))))))))
def rd__law_next : TSD :=
  sRetD (tIfD (tTst (tUnD rIsN (tSlot 1))) (tCD .non) (tBin rIxX (tBin rIxX (tBin rIxX (tSlot 0) (tCD (.int 1))) (tSlot 1)) (tMethS rSixD (tCD (.str "abc")) (tSlot 2))))
def rd__law_end : TSD :=
  sRetD (tAndV (tUnD rNotN (tSlot 1)) (tBin rIxX (tBin rIxX (tSlot 0) (tCD (.int 2))) (tSlot 1)))
def rd__law_is_of (sp__law_next : SpD) (sp__law_end : SpD) : TSD :=
  sSeqD (sAsgD (tCD (.int 0)) (gNameD 2))
  (sSeqD (sForD (iAnyD (tSlot 1)) (gNameD 3) (sAsgD (tCallD sp__law_next (tConsD (tSlot 0) (tConsD (tSlot 2) (tConsD (tSlot 3) (tNilD))))) (gNameD 2)))
  (sRetD (tCallD sp__law_end (tConsD (tSlot 0) (tConsD (tSlot 2) (tNilD))))))
def rd__law_words : TSD :=
  sSeqD (sAsgD (tLstV (tConsD (tCD (.str "")) (tNilD))) (gNameD 2))
  (sSeqD (sForD (iRng1D (tConsD (tSlot 1) (tNilD))) (gNameD 3) (sSeqD (sAsgD (tLstR (tNilD)) (gNameD 4))
  (sSeqD (sForD (iAnyD (tSlot 2)) (gNameD 5) (sDropD (tMethA rExtD (tSlot 4) (tConsD (tLcV (iAnyD (tSlD (tCD (.str "abc")) (oNone) (oSome (tSlot 0)))) (gNameD 6) (tYesD) (tBin rAddD (tSlot 5) (tSlot 6)) [6]) (tNilD)))))
  (sAsgD (tSlot 4) (gNameD 2)))))
  (sRetD (tSlot 2)))
def rd__law_counts : TSD :=
  sSeqD (sAsgD (tLcV (iAnyD (tBin rIxX (tSlot 0) (tCD (.int 2)))) (gNameD 5) (tYesD) (tCallD rIntD (tConsD (tSlot 5) (tNilD))) [5]) (gNameD 2))
  (sSeqD (sAsgD (tLstR (tConsD (tSlot 2) (tNilD))) (gNameD 3))
  (sSeqD (sForD (iRng1D (tConsD (tSlot 1) (tNilD))) (gNameD 4) (sSeqD (sAsgD (tLcV (iAnyD (tBin rIxX (tSlot 0) (tCD (.int 1)))) (gNameD 6) (tYesD) (tCallD rSumD (tConsD (tLcV (iAnyD (tSlot 6)) (gNameD 7) (tTst (tUnD rNotN (tSlot 7))) (tBin rIxX (tSlot 2) (tSlot 7)) [7]) (tNilD))) [6]) (gNameD 2))
  (sDropD (tMethL rAppD (tSlot 3) (tConsD (tSlot 2) (tNilD))))))
  (sRetD (tSlot 3))))
def rd__law_first (sp__law_counts : SpD) (sp__law_next : SpD) : TSD :=
  sSeqD (sPar2 3 4 (tConsD (tCallD sp__law_counts (tConsD (tSlot 0) (tConsD (tSlot 1) (tNilD)))) (tConsD (tLstV (tConsD (tTupD (tConsD (tCD (.str "")) (tConsD (tCD (.int 0)) (tNilD)))) (tNilD))) (tNilD))))
  (sSeqD (sForD (iRng1D (tConsD (tSlot 1) (tNilD))) (gNameD 5) (sSeqD (sAsgD (tLstR (tNilD)) (gNameD 6))
  (sSeqD (sForD (iAnyD (tSlot 4)) (gTupD 2 (gConsD (gNameD 7) (gConsD (gNameD 8) (gNilD)))) (sForD (iAnyD (tSlD (tCD (.str "abc")) (oNone) (oSome (tBin rIxX (tSlot 0) (tCD (.int 0)))))) (gNameD 9) (sSeqD (sAsgD (tCallD sp__law_next (tConsD (tSlot 0) (tConsD (tSlot 8) (tConsD (tSlot 9) (tNilD))))) (gNameD 10))
  (sIfD (tAndD (tTst (tUnD rNotN (tSlot 10))) (tTst (tBin (rCmpI fGt) (tBin rIxX (tBin rIxX (tSlot 3) (tBin rSubD (tBin rSubD (tSlot 1) (tSlot 5)) (tCD (.int 1)))) (tSlot 10)) (tCD (.int 0))))) (sDropD (tMethL rAppD (tSlot 6) (tConsD (tTupD (tConsD (tBin rAddD (tSlot 7) (tSlot 9)) (tConsD (tSlot 10) (tNilD)))) (tNilD)))) (sNextD)))))
  (sAsgD (tSlD (tSlot 6) (oNone) (oSome (tSlot 2))) (gNameD 4)))))
  (sRetD (tCallD rTupleD (tConsD (tSlD (tLcV (iAnyD (tSlot 4)) (gTupD 2 (gConsD (gNameD 7) (gConsD (gNameD 8) (gNilD)))) (tTst (tBin rIxX (tBin rIxX (tSlot 0) (tCD (.int 2))) (tSlot 8))) (tSlot 7) [7, 8]) (oNone) (oSome (tSlot 2))) (tNilD)))))
def rd__law_great (sp__law_one : SpD) (sp__law_draw : SpD) : TSD :=
  sSeqD (sAsgD (tCallD sp__law_one (tConsD (tSlot 0) (tConsD (tLstV (tConsD (tCD (.int 400)) (tConsD (tCD (.int 399)) (tConsD (tCD (.int 257)) (tNilD))))) (tNilD)))) (gNameD 2))
  (sSeqD (sAsgD (tLcR (iRng1D (tConsD (tSlot 2) (tNilD))) (gNameD 5) (tYesD) (tBin rAddD (tTupD (tConsD (tBin rModD (tCallD rIntD (tConsD (tBin rAddD (tSlot 5) (tCD (.int 1))) (tNilD))) (tSlot 2)) (tNilD))) (tBin rMulD (tTupD (tConsD (tCD .non) (tNilD))) (tBin rSubD (tSlot 1) (tCD (.int 1))))) [5]) (gNameD 3))
  (sSeqD (sAsgD (tCallD sp__law_draw (tConsD (tSlot 0) (tConsD (tSlot 2) (tNilD)))) (gNameD 4))
  (sSeqD (sAsgD (tBin rAddD (tSlD (tBin rIxX (tSlot 3) (tSlot 4)) (oNone) (oSome (tBin rSubD (tSlot 1) (tCD (.int 1))))) (tTupD (tConsD (tCallD sp__law_draw (tConsD (tSlot 0) (tConsD (tSlot 2) (tNilD)))) (tNilD)))) (gSubX (tSlot 3) (tSlot 4)))
  (sRetD (tTupD (tConsD (tSlot 1) (tConsD (tCallD rTupleD (tConsD (tSlot 3) (tNilD))) (tConsD (tCallD rTupleD (tConsD (tLcV (iRng1D (tConsD (tSlot 2) (tNilD))) (gNameD 5) (tYesD) (tOrV (tBin rEqD (tSlot 5) (tCallD sp__law_draw (tConsD (tSlot 0) (tConsD (tCD (.int 9)) (tNilD))))) (tBin rEqD (tBin rModD (tCallD rIntD (tConsD (tSlot 5) (tNilD))) (tCD (.int 50))) (tCD (.int 7)))) [5]) (tNilD))) (tNilD)))))))))
end PM
end

section
local macro_rules | `(tactic| walk_at "rdx") => `(tactic| simp only [PD.pad, PD.gt_z, PD.gt_s, PD.st_z, PD.st_s, PD.sNextD, PD.sSeqD, PD.sBreakD, PD.sContD, PD.sDropD, PD.sRetD, PD.sRetND, PD.sIfD, PD.sNeverD, PD.sAsgD, PD.sPar2, PD.sPar3, PD.gNameD, PD.gNilD, PD.gConsD, PD.gTupD, PD.gSubD, PD.tNilD, PD.tConsD, PD.tTupD, PD.tLstV, PD.tLstR, PD.tBin, PD.tTst, PD.tAndD, PD.tOrD, PD.tNotD, PD.tIfD, PD.tAndV, PD.tOrV, PD.tNotV, PD.tUnD, PD.rNeg, PD.tCallD, PD.tSlot, PD.tCD, PD.tChainD, PD.rIsN, PD.rNotN, PD.rIsiD, PD.isi_non, PD.isi_bl, PD.isi_int, PD.isi_str, PD.isi_tup, PD.isi_lst, PD.isi_dic, PD.Ty.name, PD.rCmpI, PD.fLt, PD.fLe, PD.fGt, PD.fGe, PD.rAddD, PD.rSubD, PD.rFdivD, PD.rModD, PD.rPowD, PD.rMulD, PD.rAddR, PD.rMulR, PD.asSeq, PD.asLst, PD.rLenD, PD.rTupleD, PD.rListV, PD.rListR, PD.rIntD, PD.rBoolD, PD.rAbsD, PD.rIxD, PD.oNone, PD.oSome, PD.tSlD, PD.rSlD, PD.tRevTD, PD.rEqD, PD.rNeD, PD.nrm_non, PD.nrm_bl, PD.nrm_int, PD.nrm_str, PD.nrm_tup, PD.nrm_lst, PD.nrm_dic, PD.nrm_ref, PD.iSeqD, PD.iRng1D, PD.iRng2D, PD.sForD, PD.tLcV, PD.tLcR, PD.tYesD, PD.wipeD, PD.tMethL, PD.rAppD, PD.isRefL, PD.tDicV, PD.keyOf, PD.asDic, PD.srcD, PD.iAnyD, PD.iZipD, PD.iEnumD, PD.tDcV, PD.tDicR, PD.gSubX, PD.rSetX, PD.rIxX, PD.rInD, PD.rInX, PD.rInY, PD.rSumD, PD.tRevLD, PD.tRevX, PD.rSixD, PD.rJoinD, PD.tMethS, PD.rLixD, PD.rPopD, PD.rExtD, PD.tMethA, PD.rSetD, PD.rReprD, PD.eqk_int, PD.eqd_int, PD.eqk_str, PD.eqd_str, PD.eqk_lst0, PD.eqd_lst0, PD.eqk_tup0, PD.eqd_tup0, PD.spFn, PD.spDraw, reduceIte, true_and, and_true, or_false, false_or, Bool.not_true, Bool.not_false, Bool.false_eq_true, List.length_cons, List.length_nil, List.set_cons_zero, List.set_cons_succ, PD.HD.set_same, PD.HD.tick_hp, PD.HD.tick_c, PD.HD.tick_dk, PD.HD.set_c, PD.HD.set_dk])
/-! PM1: machines: the model; is_of, the law's own walk. -/
namespace PM
open PySem PySem.Spec PyProof.Rows PD
/-- a machine -/
structure Mch where
  L : Nat
  rows : List (List (Option Nat))
  ends : List Bool
structure Mch.Ok (M : Mch) : Prop where
  l1 : 1 ≤ M.L
  l3 : M.L ≤ 3
  n1 : 1 ≤ M.rows.length
  n4 : M.rows.length ≤ 400
  en : M.ends.length = M.rows.length
  wd : ∀ r ∈ M.rows, r.length = M.L
  lt : ∀ r ∈ M.rows, ∀ c ∈ r, ∀ t, c = some t → t < M.rows.length
def encC : Option Nat → D
  | none => .non
  | some t => .int (t : Nat)
def encR (r : List (Option Nat)) : D := .tup (r.map encC)
def enc (M : Mch) : D := .tup [.int (M.L : Nat), .tup (M.rows.map encR), .tup (M.ends.map .bl)]
/-- one letter on -/
def Mch.nx (M : Mch) (s c : Nat) : Option Nat := ((M.rows[s]?).bind (·[c]?)).bind id
def Mch.nxo (M : Mch) (s : Option Nat) (c : Nat) : Option Nat := s.bind fun s => M.nx s c
def Mch.fin (M : Mch) (s : Nat) : Bool := (M.ends[s]?).getD false
def Mch.run (M : Mch) : Option Nat → List Nat → Option Nat
  | s, [] => s
  | s, c :: w => M.run (M.nxo s c) w
def Mch.acc (M : Mch) (w : List Nat) : Bool := match M.run (some 0) w with
  | some s => M.fin s
  | none => false
/-- letters as signs -/
def sgn (c : Nat) : Str := ⟨#[97 + c]⟩
def wstr (w : List Nat) : Str := ⟨(w.map (97 + ·)).toArray⟩
theorem signsD_w (w : List Nat) : signsD (wstr w) = w.map fun c => .str (sgn c) := by
  unfold signsD wstr
  simp only [List.map_map]
  rfl
theorem ix_abc {c : Nat} (h : c < 3) : Txt.index0 (Str.ofString "abc") (sgn c) = some c := by
  match c, h with
  | 0, _ => decide +kernel
  | 1, _ => decide +kernel
  | 2, _ => decide +kernel
theorem atI_map {α : Type} {xs : List α} {f : α → D} {s : Nat} {x : α} (h : xs[s]? = some x) : L2.atI (xs.map f) (s : Int) = some (f x) := by
  obtain ⟨h1, h2⟩ := List.getElem?_eq_some_iff.mp h
  rw [atI_get (by simpa using h1)]
  simp [h2]
theorem at3_1 {a b c : D} : L2.atI [a, b, c] 1 = some b := rfl
theorem at3_2 {a b c : D} : L2.atI [a, b, c] 2 = some c := rfl
theorem at3_0 {a b c : D} : L2.atI [a, b, c] 0 = some a := rfl
section
variable {M : Mch} (ok : M.Ok)
theorem Mch.row (ok : M.Ok) {s : Nat} (h : s < M.rows.length) : ∃ r, M.rows[s]? = some r ∧ r.length = M.L ∧ ∀ (c t : Nat), r[c]? = some (some t) → t < M.rows.length := by
  have hm := List.getElem_mem h
  exact ⟨M.rows[s], by simp [h], ok.wd _ hm, fun c t hc => ok.lt _ hm _ (List.mem_of_getElem? hc) t rfl⟩
theorem Mch.nx_lt (ok : M.Ok) {s c t : Nat} (h : M.nx s c = some t) : t < M.rows.length := by
  unfold Mch.nx at h
  cases e : M.rows[s]? with
  | none => rw [e] at h; cases h
  | some r =>
    rw [e] at h
    cases e2 : r[c]? with
    | none => simp [e2] at h
    | some x =>
      simp [e2] at h
      subst h
      exact ok.lt r (List.mem_of_getElem? e) _ (List.mem_of_getElem? e2) t rfl
end
theorem fin_at {M : Mch} (ok : M.Ok) {s : Nat} (h : s < M.rows.length) : M.ends[s]? = some (M.fin s) := by
  have h1 : s < M.ends.length := by rw [ok.en]; exact h
  unfold Mch.fin
  simp [h1]
/-- M[1][s]['abc'.index(c)] -/
theorem cell_at {M : Mch} (ok : M.Ok) {s c : Nat} (hs : s < M.rows.length) (hc : c < M.L) : ∃ r, M.rows[s]? = some r ∧ L2.atI (M.rows.map encR) (s : Int) = some (.tup (r.map encC)) ∧ L2.atI (r.map encC) (c : Int) = some (encC (M.nx s c)) := by
  obtain ⟨r, h1, h2, h3⟩ := M.row ok hs
  have hcl : c < r.length := by rw [h2]; exact hc
  have h4 : r[c]? = some r[c] := by simp [hcl]
  refine ⟨r, h1, atI_map h1, ?_⟩
  rw [atI_map h4]
  unfold Mch.nx
  rw [h1]
  simp only [Option.bind_some, h4]
  rfl
/-- the word's letters are the machine's -/
def WordOk (M : Mch) (w : List Nat) : Prop := ∀ c ∈ w, c < M.L
def spIsOf : SpD := fun ds S Q => ∃ M w, ds = [enc M, .str (wstr w)] ∧ M.Ok ∧ WordOk M w ∧ Q (.bl (M.acc w)) S
theorem run_none (M : Mch) : ∀ w, M.run none w = none
  | [] => rfl
  | c :: w => run_none M w
theorem isOf_ok (ds : List D) (S : HD) (Q : QD) (h : spIsOf ds S Q) : rd_is_of (ends Q) (pad 4 ds) S := by
  obtain ⟨M, w, rfl, ok, hw, q⟩ := h
  unfold rd_is_of
  generalize hB : (sSeqD (sAsgD _ (gNameD 2)) (sIfD _ _ _) : TSD) = B1
  walk_at "rdx"
  rw [signsD_w]
  subst hB
  refine loopD_go (fun i σ S' => S' = S ∧ ∃ s v, σ = [some (enc M), some (.str (wstr w)), some (.int (s : Nat)), v] ∧ s < M.rows.length ∧ M.run (some 0) w = M.run (some s) (w.drop i)) ⟨rfl, 0, none, rfl, ok.n1, rfl⟩ (fun i d σ S' N hi ⟨e1, s, v, e2, e3, e4⟩ k => ⟨trivial, ?_⟩) fun σ S' ⟨e1, s, v, e2, e3, e4⟩ => ⟨trivial, ?_⟩
  · subst e1 e2
    rw [List.getElem?_map] at hi
    obtain ⟨c, hc, rfl⟩ := Option.map_eq_some_iff.mp hi
    have hm : c < M.L := hw c (List.mem_of_getElem? hc)
    have hdr : w.drop i = c :: w.drop (i + 1) := by
      obtain ⟨h1, h2⟩ := List.getElem?_eq_some_iff.mp hc
      rw [List.drop_eq_getElem_cons h1, h2]
    rw [hdr] at e4
    obtain ⟨r, h1, h2, h3⟩ := cell_at ok e3 hm
    have h5 := ix_abc (Nat.lt_of_lt_of_le hm ok.l3)
    unfold enc
    walk_at "rdx"
    simp only [at3_1, h2, h3, h5]
    refine ⟨⟨_, rfl⟩, ?_⟩
    cases hn : M.nx s c with
    | none =>
      simp only [encC, isN, if_true]
      have : M.acc w = false := by
        unfold Mch.acc
        rw [e4]
        show (match M.run (M.nx s c) _ with | some s => M.fin s | none => false) = false
        rw [hn, run_none]
      rw [this] at q
      exact fin.here q
    | some t =>
      simp only [encC, isN, Bool.false_eq_true, if_false]
      refine k _ _ ⟨rfl, t, _, rfl, M.nx_lt ok hn, ?_⟩
      rw [e4]
      show M.run (M.nx s c) _ = _
      rw [hn]
  · subst e1 e2
    rw [show w.drop (List.map (fun c => D.str (sgn c)) w).length = [] by simp] at e4
    have hen := fin_at ok e3
    have : M.acc w = M.fin s := by
      unfold Mch.acc
      rw [e4]
      rfl
    rw [this] at q
    unfold enc
    walk_at "rdx"
    simp only [at3_2, atI_map hen]
    exact fin.here q
theorem isOf_len (ds : List D) (S : HD) (Q : QD) (h : spIsOf ds S Q) : ds.length = 2 := by
  obtain ⟨_, _, rfl, _⟩ := h
  rfl
/-! ### the law's own walk -/
def spNext : SpD := fun ds S Q => ∃ M s c, ds = [enc M, encC s, .str (sgn c)] ∧ M.Ok ∧ c < M.L ∧ (∀ t, s = some t → t < M.rows.length) ∧ Q (encC (M.nxo s c)) S
theorem next_ok (ds : List D) (S : HD) (Q : QD) (h : spNext ds S Q) : rd__law_next (ends Q) (pad 3 ds) S := by
  obtain ⟨M, s, c, rfl, ok, hc, hs, q⟩ := h
  have q := fin.here q
  unfold rd__law_next
  cases s with
  | none => unfold encC at *; walk_at "rdx"; exact q
  | some s =>
    obtain ⟨r, h1, h2, h3⟩ := cell_at ok (hs s rfl) hc
    have h5 := ix_abc (Nat.lt_of_lt_of_le hc ok.l3)
    unfold enc
    simp only [encC]
    walk_at "rdx"
    simp only [isN, Bool.false_eq_true, if_false, at3_1, h2, h3, h5]
    exact ⟨⟨_, rfl⟩, q⟩
theorem next_len (ds : List D) (S : HD) (Q : QD) (h : spNext ds S Q) : ds.length = 3 := by
  obtain ⟨_, _, _, rfl, _⟩ := h
  rfl
def spEnd : SpD := fun ds S Q => ∃ M s, ds = [enc M, encC s] ∧ M.Ok ∧ (∀ t, s = some t → t < M.rows.length) ∧ Q (.bl (match s with | some t => M.fin t | none => false)) S
theorem end_ok (ds : List D) (S : HD) (Q : QD) (h : spEnd ds S Q) : rd__law_end (ends Q) (pad 2 ds) S := by
  obtain ⟨M, s, rfl, ok, hs, q⟩ := h
  have q := fin.here q
  unfold rd__law_end
  cases s with
  | none => unfold encC; walk_at "rdx"; exact q
  | some s =>
    have hen := fin_at ok (hs s rfl)
    unfold enc
    simp only [encC]
    walk_at "rdx"
    simp only [isN, at3_2, atI_map hen]
    exact q
theorem end_len (ds : List D) (S : HD) (Q : QD) (h : spEnd ds S Q) : ds.length = 2 := by
  obtain ⟨_, _, rfl, _⟩ := h
  rfl
theorem run_lt {M : Mch} (ok : M.Ok) : ∀ (w : List Nat) (s : Option Nat) (t : Nat), (∀ t, s = some t → t < M.rows.length) → M.run s w = some t → t < M.rows.length
  | [], s, t, h, e => h t e
  | c :: w, s, t, h, e => run_lt ok w (M.nxo s c) t (fun u hu => by
    cases s with
    | none => cases hu
    | some s => exact M.nx_lt ok hu) e
theorem lawIsOf_ok (ds : List D) (S : HD) (Q : QD) (h : spIsOf ds S Q) : rd__law_is_of spNext spEnd (ends Q) (pad 4 ds) S := by
  obtain ⟨M, w, rfl, ok, hw, q⟩ := h
  have q := fin.here q
  unfold rd__law_is_of
  generalize hB : (sAsgD (tCallD spNext _) (gNameD 2) : TSD) = B1
  walk_at "rdx"
  rw [signsD_w]
  subst hB
  refine loopD_go (fun i σ S' => S' = S ∧ ∃ s v, σ = [some (enc M), some (.str (wstr w)), some (encC s), v] ∧ (∀ t, s = some t → t < M.rows.length) ∧ M.run (some 0) w = M.run s (w.drop i)) ⟨rfl, some 0, none, rfl, fun t e => (by cases e; exact ok.n1), rfl⟩ (fun i d σ S' N hi ⟨e1, s, v, e2, e3, e4⟩ k => ⟨trivial, ?_⟩) fun σ S' ⟨e1, s, v, e2, e3, e4⟩ => ⟨trivial, ?_⟩
  · subst e1 e2
    rw [List.getElem?_map] at hi
    obtain ⟨c, hc, rfl⟩ := Option.map_eq_some_iff.mp hi
    have hm : c < M.L := hw c (List.mem_of_getElem? hc)
    have hdr : w.drop i = c :: w.drop (i + 1) := by
      obtain ⟨h1, h2⟩ := List.getElem?_eq_some_iff.mp hc
      rw [List.drop_eq_getElem_cons h1, h2]
    rw [hdr] at e4
    walk_at "rdx"
    refine ⟨M, s, c, rfl, ok, hm, e3, k _ _ ⟨rfl, _, _, rfl, fun t ht => ?_, e4⟩⟩
    cases s with
    | none => cases ht
    | some s => exact M.nx_lt ok ht
  · subst e1 e2
    rw [show w.drop (List.map (fun c => D.str (sgn c)) w).length = [] by simp] at e4
    walk_at "rdx"
    refine ⟨M, s, rfl, ok, e3, ?_⟩
    unfold Mch.acc at q
    rw [e4] at q
    exact q
end PM
end

section
local macro_rules | `(tactic| walk_at "rdx") => `(tactic| simp only [PD.pad, PD.gt_z, PD.gt_s, PD.st_z, PD.st_s, PD.sNextD, PD.sSeqD, PD.sBreakD, PD.sContD, PD.sDropD, PD.sRetD, PD.sRetND, PD.sIfD, PD.sNeverD, PD.sAsgD, PD.sPar2, PD.sPar3, PD.gNameD, PD.gNilD, PD.gConsD, PD.gTupD, PD.gSubD, PD.tNilD, PD.tConsD, PD.tTupD, PD.tLstV, PD.tLstR, PD.tBin, PD.tTst, PD.tAndD, PD.tOrD, PD.tNotD, PD.tIfD, PD.tAndV, PD.tOrV, PD.tNotV, PD.tUnD, PD.rNeg, PD.tCallD, PD.tSlot, PD.tCD, PD.tChainD, PD.rIsN, PD.rNotN, PD.rIsiD, PD.isi_non, PD.isi_bl, PD.isi_int, PD.isi_str, PD.isi_tup, PD.isi_lst, PD.isi_dic, PD.Ty.name, PD.rCmpI, PD.fLt, PD.fLe, PD.fGt, PD.fGe, PD.rAddD, PD.rSubD, PD.rFdivD, PD.rModD, PD.rPowD, PD.rMulD, PD.rAddR, PD.rMulR, PD.asSeq, PD.asLst, PD.rLenD, PD.rTupleD, PD.rListV, PD.rListR, PD.rIntD, PD.rBoolD, PD.rAbsD, PD.rIxD, PD.oNone, PD.oSome, PD.tSlD, PD.rSlD, PD.tRevTD, PD.rEqD, PD.rNeD, PD.nrm_non, PD.nrm_bl, PD.nrm_int, PD.nrm_str, PD.nrm_tup, PD.nrm_lst, PD.nrm_dic, PD.nrm_ref, PD.iSeqD, PD.iRng1D, PD.iRng2D, PD.sForD, PD.tLcV, PD.tLcR, PD.tYesD, PD.wipeD, PD.tMethL, PD.rAppD, PD.isRefL, PD.tDicV, PD.keyOf, PD.asDic, PD.srcD, PD.iAnyD, PD.iZipD, PD.iEnumD, PD.tDcV, PD.tDicR, PD.gSubX, PD.rSetX, PD.rIxX, PD.rInD, PD.rInX, PD.rInY, PD.rSumD, PD.tRevLD, PD.tRevX, PD.rSixD, PD.rJoinD, PD.tMethS, PD.rLixD, PD.rPopD, PD.rExtD, PD.tMethA, PD.rSetD, PD.rReprD, PD.eqk_int, PD.eqd_int, PD.eqk_str, PD.eqd_str, PD.eqk_lst0, PD.eqd_lst0, PD.eqk_tup0, PD.eqd_tup0, PD.spFn, PD.spDraw, reduceIte, true_and, and_true, or_false, false_or, Bool.not_true, Bool.not_false, Bool.false_eq_true, List.length_cons, List.length_nil, List.set_cons_zero, List.set_cons_succ, PD.HD.set_same, PD.HD.tick_hp, PD.HD.tick_c, PD.HD.tick_dk, PD.HD.set_c, PD.HD.set_dk])
/-! PM2: accepted words by length and state; layers, counts. -/
namespace PM
open PySem PySem.Spec PyProof.Rows PD
/-- the moves of a state -/
def Mch.kids (M : Mch) (s : Nat) : List (Nat × Nat) := (List.range M.L).filterMap fun c => (M.nx s c).map fun t => (c, t)
/-- the accepted words of length k from s, in order -/
def Mch.A (M : Mch) : Nat → Nat → List (List Nat)
  | 0, s => if M.fin s = true then [[]] else []
  | k + 1, s => (M.kids s).flatMap fun p => (M.A k p.2).map (p.1 :: ·)
def Mch.opn (M : Mch) (k s : Nat) : Bool := !(M.A k s).isEmpty
def Mch.cnt (M : Mch) (k s : Nat) : Nat := (M.A k s).length
theorem kids_row {M : Mch} {s : Nat} {r : List (Option Nat)} (h : M.rows[s]? = some r) (hl : r.length = M.L) : (M.kids s).map (·.2) = r.filterMap id := by
  have e1 : M.kids s = (List.range r.length).filterMap fun c => ((r[c]?).bind id).map fun t => (c, t) := by
    unfold Mch.kids
    rw [← hl]
    apply congrArg (fun f => List.filterMap f _)
    funext c
    unfold Mch.nx
    rw [h]
    rfl
  rw [e1, List.map_filterMap]
  have e2 : ∀ (r : List (Option Nat)), (List.range r.length).filterMap (fun c => Option.map (·.2) (((r[c]?).bind id).map fun t => (c, t))) = r.filterMap id := by
    intro r
    have : (List.range r.length).map (fun c => (r[c]?).bind id) = r := by
      apply List.ext_getElem
      · simp
      · intro i h1 h2
        simp at h1
        simp [h1]
    conv => rhs; rw [← this]
    rw [List.filterMap_map]
    apply congrArg (fun f => List.filterMap f _)
    funext c
    show Option.map (·.2) (((r[c]?).bind id).map fun t => (c, t)) = (r[c]?).bind id
    cases (r[c]?).bind id <;> rfl
  exact e2 r
theorem kids_lt {M : Mch} (ok : M.Ok) {s c t : Nat} (h : (c, t) ∈ M.kids s) : c < M.L ∧ t < M.rows.length ∧ M.nx s c = some t := by
  obtain ⟨c', h1, h2⟩ := List.mem_filterMap.mp h
  obtain ⟨t', h3, h4⟩ := Option.map_eq_some_iff.mp h2
  cases h4
  exact ⟨List.mem_range.mp h1, M.nx_lt ok h3, h3⟩
theorem cnt_succ (M : Mch) (k s : Nat) : M.cnt (k + 1) s = ((M.kids s).map fun p => M.cnt k p.2).sum := by
  show ((M.kids s).flatMap fun p => (M.A k p.2).map (p.1 :: ·)).length = _
  rw [List.length_flatMap]
  simp only [List.length_map]
  rfl
theorem opn_succ (M : Mch) (k s : Nat) : M.opn (k + 1) s = (M.kids s).any fun p => M.opn k p.2 := by
  unfold Mch.opn
  show (!(M.kids s |>.flatMap fun p => (M.A k p.2).map (p.1 :: ·)).isEmpty) = _
  induction M.kids s with
  | nil => rfl
  | cons p ps ih =>
    rw [List.flatMap_cons, List.any_cons, ← ih]
    cases h : M.A k p.2 with
    | nil => simp
    | cons x xs => simp
theorem opn_cnt (M : Mch) (k s : Nat) : M.opn k s = decide (0 < M.cnt k s) := by
  unfold Mch.opn Mch.cnt
  cases M.A k s <;> simp
/-! ### dict comprehensions over enumerate: the places kept -/
def keysD (p : Nat → Bool) (n : Nat) : List (D × D) := ((List.range n).filter p).map fun s => (.int (s : Nat), .bl true)
theorem keysD_get (p : Nat → Bool) (n s : Nat) : hasK (keysD p n) (.inl (s : Int)) = (decide (s < n) && p s) := by
  unfold hasK keysD
  have key : ∀ ss : List Nat, (getK (ss.map fun s => (D.int (s : Nat), D.bl true)) (.inl (s : Int))).isSome = decide (s ∈ ss) := by
    intro ss
    induction ss with
    | nil => rfl
    | cons x xs ih =>
      simp only [List.map_cons, getK]
      by_cases e : x = s
      · subst e
        rw [if_pos (show keyOf (D.int (x : Int)) = some (.inl (x : Int)) from rfl)]
        simp
      · have ne : ¬ keyOf (D.int (x : Int)) = some (.inl (s : Int)) := fun q => e (by
          have q' : (some (Sum.inl (x : Int)) : Option L2.Key) = some (Sum.inl (s : Int)) := q
          have := Sum.inl.inj (Option.some.inj q')
          omega)
        rw [if_neg ne, ih]
        simp [Ne.symm e]
  rw [key]
  simp [List.mem_filter]
theorem keysD_put (p : Nat → Bool) (i : Nat) (h : p i = true) : putD (keysD p i) (.inl (i : Int)) (.bl true) = keysD p (i + 1) := by
  unfold putD
  rw [keysD_get]
  simp only [Nat.lt_irrefl, decide_false, Bool.false_and, Bool.false_eq_true, if_false]
  unfold keysD
  rw [List.range_succ, List.filter_append, List.map_append]
  simp [h, kD]
theorem keysD_skip (p : Nat → Bool) (i : Nat) (h : p i = false) : keysD p (i + 1) = keysD p i := by
  unfold keysD
  rw [List.range_succ, List.filter_append]
  simp [h]
/-- {i: True for i, x in enumerate(xs) if test} -/
theorem dcD_enum {g : TGD} {tt : TTD} {tk tv : TED} {σ : SD} {keep : HD → Prop} {Q : List (D × D) → HD → Prop} {S : HD} (p : Nat → Bool) (all : List D) (hk : keep S)
    (step : ∀ (i : Nat) (x : D) (Q1 : D → D → HD → Prop) (Q0 : HD → Prop), all[i]? = some x → (if p i = true then Q1 (.int (i : Nat)) (.bl true) S else Q0 S) →
      g (.tup [.int (i : Nat), x]) σ S fun σ2 S2 => tt σ2 S2 fun b S3 => if b = true then tk σ2 S3 fun y S4 => tv σ2 S4 fun z S5 => Q1 y z S5 else Q0 S3)
    (q : Q (keysD p all.length) S) : dcD g tt tk tv σ keep Q (enumD all) [] S := by
  have key : ∀ (xs : List D) (i : Nat), (enumD all).drop i = xs → i ≤ all.length → dcD g tt tk tv σ keep Q xs (keysD p i) S := by
    intro xs
    induction xs with
    | nil =>
      intro i e hi
      have : i = all.length := by
        have := congrArg List.length e
        rw [List.length_drop, enumD_len] at this
        simp at this
        omega
      subst this
      exact ⟨hk, q⟩
    | cons d r ih =>
      intro i e hi
      have hl : i < (enumD all).length := by
        apply Nat.lt_of_not_le
        intro z
        rw [List.drop_of_length_le z] at e
        cases e
      rw [List.drop_eq_getElem_cons hl] at e
      injection e with e1 e2
      obtain ⟨x, hx, ed⟩ := enumD_get (i := i) (d := d) (by rw [List.getElem?_eq_getElem hl, e1])
      subst ed
      have hi' : i + 1 ≤ all.length := by rw [enumD_len] at hl; omega
      refine ⟨hk, step i x _ _ hx ?_⟩
      cases h : p i with
      | true =>
        simp only [if_true]
        show dcD g tt tk tv σ keep Q r (putD (keysD p i) (.inl (i : Int)) (.bl true)) S
        rw [keysD_put p i h]
        exact ih (i + 1) e2 hi'
      | false =>
        simp only [Bool.false_eq_true, if_false]
        rw [← keysD_skip p i h]
        exact ih (i + 1) e2 hi'
  have := key (enumD all) 0 rfl (Nat.zero_le _)
  exact this
def layD (M : Mch) (k : Nat) : D := .dic (keysD (M.opn k) M.rows.length)
def spLayers : SpD := fun ds S Q => ∃ (M : Mch) (n : Nat), ds = [enc M, .int (n : Nat)] ∧ M.Ok ∧ n ≤ 1000 ∧ Q (.lst ((List.range (n + 1)).map (layD M))) S
theorem layers_len (ds : List D) (S : HD) (Q : QD) (h : spLayers ds S Q) : ds.length = 2 := by
  obtain ⟨_, _, rfl, _⟩ := h
  rfl
theorem rows_get {M : Mch} {i : Nat} {x : D} (h : (M.rows.map encR)[i]? = some x) : ∃ r, M.rows[i]? = some r ∧ x = .tup (r.map encC) := by
  rw [List.getElem?_map] at h
  obtain ⟨r, h1, h2⟩ := Option.map_eq_some_iff.mp h
  exact ⟨r, h1, h2.symm⟩
theorem in_lay {M : Mch} (ok : M.Ok) {k : Nat} {c : Option Nat} (hc : ∀ t, c = some t → t < M.rows.length) (neg : Bool) (S : HD) (Q : QD) (q : Q (.bl (if neg then !(match c with | some t => M.opn k t | none => false) else (match c with | some t => M.opn k t | none => false))) S) :
    rInY neg (encC c) (layD M k) S Q := by
  cases c with
  | none =>
    show Q (.bl neg) S
    cases neg <;> exact q
  | some t =>
    show Q (.bl (if neg then !hasK (keysD (M.opn k) M.rows.length) (.inl (t : Int)) else hasK (keysD (M.opn k) M.rows.length) (.inl (t : Int)))) S
    rw [keysD_get]
    simp only [hc t rfl, decide_true, Bool.true_and]
    exact q
end PM
end

section
local macro_rules | `(tactic| walk_at "rdx") => `(tactic| simp only [PD.pad, PD.gt_z, PD.gt_s, PD.st_z, PD.st_s, PD.sNextD, PD.sSeqD, PD.sBreakD, PD.sContD, PD.sDropD, PD.sRetD, PD.sRetND, PD.sIfD, PD.sNeverD, PD.sAsgD, PD.sPar2, PD.sPar3, PD.gNameD, PD.gNilD, PD.gConsD, PD.gTupD, PD.gSubD, PD.tNilD, PD.tConsD, PD.tTupD, PD.tLstV, PD.tLstR, PD.tBin, PD.tTst, PD.tAndD, PD.tOrD, PD.tNotD, PD.tIfD, PD.tAndV, PD.tOrV, PD.tNotV, PD.tUnD, PD.rNeg, PD.tCallD, PD.tSlot, PD.tCD, PD.tChainD, PD.rIsN, PD.rNotN, PD.rIsiD, PD.isi_non, PD.isi_bl, PD.isi_int, PD.isi_str, PD.isi_tup, PD.isi_lst, PD.isi_dic, PD.Ty.name, PD.rCmpI, PD.fLt, PD.fLe, PD.fGt, PD.fGe, PD.rAddD, PD.rSubD, PD.rFdivD, PD.rModD, PD.rPowD, PD.rMulD, PD.rAddR, PD.rMulR, PD.asSeq, PD.asLst, PD.rLenD, PD.rTupleD, PD.rListV, PD.rListR, PD.rIntD, PD.rBoolD, PD.rAbsD, PD.rIxD, PD.oNone, PD.oSome, PD.tSlD, PD.rSlD, PD.tRevTD, PD.rEqD, PD.rNeD, PD.nrm_non, PD.nrm_bl, PD.nrm_int, PD.nrm_str, PD.nrm_tup, PD.nrm_lst, PD.nrm_dic, PD.nrm_ref, PD.iSeqD, PD.iRng1D, PD.iRng2D, PD.sForD, PD.tLcV, PD.tLcR, PD.tYesD, PD.wipeD, PD.tMethL, PD.rAppD, PD.isRefL, PD.tDicV, PD.keyOf, PD.asDic, PD.srcD, PD.iAnyD, PD.iZipD, PD.iEnumD, PD.tDcV, PD.tDicR, PD.gSubX, PD.rSetX, PD.rIxX, PD.rInD, PD.rInX, PD.rInY, PD.rSumD, PD.tRevLD, PD.tRevX, PD.rSixD, PD.rJoinD, PD.tMethS, PD.rLixD, PD.rPopD, PD.rExtD, PD.tMethA, PD.rSetD, PD.rReprD, PD.eqk_int, PD.eqd_int, PD.eqk_str, PD.eqd_str, PD.eqk_lst0, PD.eqd_lst0, PD.eqk_tup0, PD.eqd_tup0, PD.spFn, PD.spDraw, reduceIte, true_and, and_true, or_false, false_or, Bool.not_true, Bool.not_false, Bool.false_eq_true, List.length_cons, List.length_nil, List.set_cons_zero, List.set_cons_succ, PD.HD.set_same, PD.HD.tick_hp, PD.HD.tick_c, PD.HD.tick_dk, PD.HD.set_c, PD.HD.set_dk])
/-! PM3: the readings of open_layers, counts, count, moves_of. -/
namespace PM
open PySem PySem.Spec PyProof.Rows PD
theorem kids_any {M : Mch} (ok : M.Ok) {s : Nat} {r : List (Option Nat)} (h : M.rows[s]? = some r) (k : Nat) : M.opn (k + 1) s = r.any fun c => match c with
    | some t => M.opn k t
    | none => false := by
  rw [opn_succ]
  have hl := ok.wd r (List.mem_of_getElem? h)
  have e : (M.kids s).any (fun p => M.opn k p.2) = ((M.kids s).map (·.2)).any (M.opn k) := by rw [List.any_map]; rfl
  rw [e, kids_row h hl]
  induction r with
  | nil => rfl
  | cons c r _ =>
    clear h hl e
    have key : ∀ r : List (Option Nat), (r.filterMap id).any (M.opn k) = r.any fun c => match c with
        | some t => M.opn k t
        | none => false := by
      intro r
      induction r with
      | nil => rfl
      | cons c r ih =>
        cases c with
        | none => rw [List.filterMap_cons, List.any_cons, ← ih]; rfl
        | some t => rw [List.filterMap_cons, List.any_cons, ← ih]; rfl
    exact key _
theorem row_cell {M : Mch} (ok : M.Ok) {s : Nat} {r : List (Option Nat)} (h : M.rows[s]? = some r) {d : D} (hd : d ∈ r.map encC) : ∃ c, c ∈ r ∧ d = encC c ∧ ∀ t, c = some t → t < M.rows.length := by
  obtain ⟨c, h1, h2⟩ := List.mem_map.mp hd
  exact ⟨c, h1, h2.symm, fun t ht => ok.lt r (List.mem_of_getElem? h) c h1 t ht⟩
theorem any_empty {α : Type} (p : α → Bool) (f : α → D) : ∀ xs : List α, (xs.filterMap fun d => if p d = true then some (f d) else none).isEmpty = !xs.any p
  | [] => rfl
  | x :: xs => by
    rw [List.filterMap_cons, List.any_cons]
    cases h : p x
    · simp only [Bool.false_eq_true, if_false, Bool.false_or]
      exact any_empty p f xs
    · simp
/-- a cell's being open -/
def cOpn (M : Mch) (k : Nat) : D → Bool
  | .int t => M.opn k t.toNat
  | _ => false
theorem cOpn_enc (M : Mch) (k : Nat) (c : Option Nat) : cOpn M k (encC c) = (match c with
    | some t => M.opn k t
    | none => false) := by cases c <;> rfl
theorem layers_ok (ds : List D) (S : HD) (Q : QD) (h : spLayers ds S Q) : rd_open_layers (ends Q) (pad 9 ds) S := by
  obtain ⟨M, n, rfl, ok, hn, q⟩ := h
  unfold rd_open_layers
  refine seq_step fun N1 hN1 => ?_
  generalize hg : (gTupD 2 _ : TGD) = g
  unfold enc
  walk_at "rdx"
  simp only [at3_2]
  subst hg
  have hsl : (sizeLine : Nat) = 16777216 := rfl
  have n4 := ok.n4
  refine ⟨by rw [enumD_len, List.length_map, ok.en]; omega, dcD_enum (M.opn 0) _ trivial (fun i x Q1 Q0 hx h => ?_) ?_⟩
  · rw [List.getElem?_map] at hx
    obtain ⟨b, hb, rfl⟩ := Option.map_eq_some_iff.mp hx
    have hi : i < M.rows.length := by rw [← ok.en]; exact (List.getElem?_eq_some_iff.mp hb).1
    have e0 : M.opn 0 i = b := by
      have e1 := fin_at ok hi
      rw [hb] at e1
      cases e1
      unfold Mch.opn
      show (!(if M.fin i = true then [[]] else ([] : List (List Nat))).isEmpty) = M.fin i
      cases M.fin i <;> rfl
    rw [e0] at h
    walk_at "rdx"
    exact h
  rw [List.length_map, ok.en]
  refine hN1 _ _ ?_
  clear hN1 N1
  refine seq_step fun N1 hN1 => ?_
  walk_at "rdx"
  refine ⟨by decide, fun p hp => hN1 _ _ ?_⟩
  clear hN1 N1
  generalize hB : (sSeqD (sAsgD (tDcV _ _ _ _ _ _) (gNameD 2)) (sDropD _) : TSD) = B1
  walk_at "rdx"
  subst hB
  refine ⟨⟨by omega, by omega⟩, loopD_go (fun i σ S' => (∃ v, σ = [some (enc M), some (.int (n : Nat)), some (layD M i), some (.ref p), v, none, none, none, none]) ∧ S'.hp p = some (.lst ((List.range (i + 1)).map (layD M))) ∧ Up 0 S S') ⟨⟨none, rfl⟩, HD.set_same, (Up.refl S).new hp⟩ (fun i d σ S' N hi ⟨⟨v, e1⟩, e2, e3⟩ k => ⟨trivial, ?_⟩) fun σ S' ⟨⟨v, e1⟩, e2, e3⟩ => ⟨trivial, ?_⟩⟩
  · obtain ⟨hi1, rfl⟩ := rngD_get hi
    subst e1
    refine seq_step fun N1 hN1 => ?_
    generalize hg : (gTupD 2 _ : TGD) = g
    unfold enc
    walk_at "rdx"
    simp only [at3_1]
    subst hg
    refine ⟨by rw [enumD_len, List.length_map]; omega, dcD_enum (M.opn (i + 1)) _ trivial (fun j x Q1 Q0 hx h => ?_) ?_⟩
    · obtain ⟨r, hr, rfl⟩ := rows_get hx
      generalize hg8 : gNameD 8 = g8
      walk_at "rdx"
      subst hg8
      refine fun hz => ⟨hz, lcD_pure (fun d => if cOpn M i d = true then some (.int 1) else none) trivial _ _ (fun d hd R1 R0 hh => ?_) ⟨by decide, ?_⟩⟩
      · obtain ⟨c, hc, rfl, hlt⟩ := row_cell ok hr hd
        rw [cOpn_enc] at hh
        simp only [gNameD, st_z, st_s, tTst, tBin, tSlot, gt_z, gt_s, tCD]
        refine in_lay ok hlt false S' _ ?_
        simp only [Bool.false_eq_true, if_false]
        cases c with
        | none => exact hh
        | some t =>
          simp only at hh ⊢
          by_cases ho : M.opn i t = true <;> simpa [ho] using hh
      · rw [List.nil_append, any_empty]
        have e4 : (r.map encC).any (cOpn M i) = M.opn (i + 1) j := by
          rw [kids_any ok hr, List.any_map]
          congr 1
          funext c
          exact cOpn_enc M i c
        rw [e4]
        cases ho : M.opn (i + 1) j <;> simpa [ho] using h
    rw [List.length_map]
    refine hN1 _ _ ?_
    clear hN1 N1
    walk_at "rdx"
    simp only [e2]
    refine ⟨⟨_, rfl⟩, by simp; omega, k _ _ ⟨⟨_, rfl⟩, ?_, e3.set hp⟩⟩
    rw [HD.set_same]
    rw [List.range_succ (n := i + 1), List.map_append]
    rfl
  · subst e1
    rw [rngD_len] at e2
    walk_at "rdx"
    refine fin.frz e2 ⟨fun a o h => ?_, e3.c, e3.dk.symm⟩ q
    have ne : a ≠ p := fun e => by
      rw [e] at h
      rw [show S.hp p = none from hp] at h
      cases h
    simp only [HD.del, ne, if_false]
    exact e3.hp a o h
end PM
end

section
local macro_rules | `(tactic| walk_at "rdx") => `(tactic| simp only [PD.pad, PD.gt_z, PD.gt_s, PD.st_z, PD.st_s, PD.sNextD, PD.sSeqD, PD.sBreakD, PD.sContD, PD.sDropD, PD.sRetD, PD.sRetND, PD.sIfD, PD.sNeverD, PD.sAsgD, PD.sPar2, PD.sPar3, PD.gNameD, PD.gNilD, PD.gConsD, PD.gTupD, PD.gSubD, PD.tNilD, PD.tConsD, PD.tTupD, PD.tLstV, PD.tLstR, PD.tBin, PD.tTst, PD.tAndD, PD.tOrD, PD.tNotD, PD.tIfD, PD.tAndV, PD.tOrV, PD.tNotV, PD.tUnD, PD.rNeg, PD.tCallD, PD.tSlot, PD.tCD, PD.tChainD, PD.rIsN, PD.rNotN, PD.rIsiD, PD.isi_non, PD.isi_bl, PD.isi_int, PD.isi_str, PD.isi_tup, PD.isi_lst, PD.isi_dic, PD.Ty.name, PD.rCmpI, PD.fLt, PD.fLe, PD.fGt, PD.fGe, PD.rAddD, PD.rSubD, PD.rFdivD, PD.rModD, PD.rPowD, PD.rMulD, PD.rAddR, PD.rMulR, PD.asSeq, PD.asLst, PD.rLenD, PD.rTupleD, PD.rListV, PD.rListR, PD.rIntD, PD.rBoolD, PD.rAbsD, PD.rIxD, PD.oNone, PD.oSome, PD.tSlD, PD.rSlD, PD.tRevTD, PD.rEqD, PD.rNeD, PD.nrm_non, PD.nrm_bl, PD.nrm_int, PD.nrm_str, PD.nrm_tup, PD.nrm_lst, PD.nrm_dic, PD.nrm_ref, PD.iSeqD, PD.iRng1D, PD.iRng2D, PD.sForD, PD.tLcV, PD.tLcR, PD.tYesD, PD.wipeD, PD.tMethL, PD.rAppD, PD.isRefL, PD.tDicV, PD.keyOf, PD.asDic, PD.srcD, PD.iAnyD, PD.iZipD, PD.iEnumD, PD.tDcV, PD.tDicR, PD.gSubX, PD.rSetX, PD.rIxX, PD.rInD, PD.rInX, PD.rInY, PD.rSumD, PD.tRevLD, PD.tRevX, PD.rSixD, PD.rJoinD, PD.tMethS, PD.rLixD, PD.rPopD, PD.rExtD, PD.tMethA, PD.rSetD, PD.rReprD, PD.eqk_int, PD.eqd_int, PD.eqk_str, PD.eqd_str, PD.eqk_lst0, PD.eqd_lst0, PD.eqk_tup0, PD.eqd_tup0, PD.spFn, PD.spDraw, reduceIte, true_and, and_true, or_false, false_or, Bool.not_true, Bool.not_false, Bool.false_eq_true, List.length_cons, List.length_nil, List.set_cons_zero, List.set_cons_succ, PD.HD.set_same, PD.HD.tick_hp, PD.HD.tick_c, PD.HD.tick_dk, PD.HD.set_c, PD.HD.set_dk])
/-! PM4: counts. -/
namespace PM
open PySem PySem.Spec PyProof.Rows PD
def cellV (M : Mch) (k : Nat) : D → Int
  | .int t => (M.cnt k t.toNat : Nat)
  | _ => 0
def cntInts (M : Mch) (k : Nat) (cells : List D) : List Int := (cells.filter fun d => !isN d).map (cellV M k)
theorem castSum (f : Nat → Nat) : ∀ l : List Nat, (l.map fun t => ((f t : Nat) : Int)).sum = (((l.map f).sum : Nat) : Int)
  | [] => rfl
  | x :: xs => by simp only [List.map_cons, List.sum_cons, castSum f xs]; omega
theorem cnt_row {M : Mch} (ok : M.Ok) {s : Nat} {r : List (Option Nat)} (h : M.rows[s]? = some r) (k : Nat) : (cntInts M k (r.map encC)).sum = (M.cnt (k + 1) s : Nat) := by
  have hl := ok.wd r (List.mem_of_getElem? h)
  rw [cnt_succ]
  have e : (M.kids s).map (fun p => M.cnt k p.2) = ((M.kids s).map (·.2)).map (M.cnt k) := by rw [List.map_map]; rfl
  rw [e, kids_row h hl, ← castSum]
  clear h hl e
  have e2 : cntInts M k (r.map encC) = (r.filterMap id).map fun t => ((M.cnt k t : Nat) : Int) := by
    unfold cntInts
    induction r with
    | nil => rfl
    | cons c r ih =>
      cases c with
      | none => exact ih
      | some t =>
        show ((M.cnt k ((t : Nat) : Int).toNat : Nat) : Int) :: ((r.map encC).filter fun d => !isN d).map (cellV M k) = ((M.cnt k t : Nat) : Int) :: (r.filterMap id).map fun t => ((M.cnt k t : Nat) : Int)
        rw [ih]
        rfl
  rw [e2]
def cntD (M : Mch) (k s : Nat) : D := .int (M.cnt k s : Nat)
def rowL (M : Mch) (k : Nat) : List D := (List.range M.rows.length).map (cntD M k)
theorem rowL_at {M : Mch} {k t : Nat} (h : t < M.rows.length) : L2.atI (rowL M k) (t : Int) = some (cntD M k t) := by
  unfold rowL
  exact atI_map (by rw [List.getElem?_range h])
def endI : D → Option D
  | .bl b => some (.int (if b = true then 1 else 0))
  | _ => none
/-- the row at the end of the words -/
theorem rowL_0 {M : Mch} (ok : M.Ok) : (M.ends.map D.bl).filterMap endI = rowL M 0 := by
  apply List.ext_getElem?
  intro i
  unfold rowL
  rw [List.filterMap_map]
  have e : (M.ends.filterMap (endI ∘ D.bl)) = M.ends.map fun b => D.int (if b = true then 1 else 0) := by
    rw [← List.filterMap_eq_map]
    rfl
  rw [e, List.getElem?_map, List.getElem?_map]
  by_cases hi : i < M.rows.length
  · rw [fin_at ok hi, List.getElem?_range hi]
    show some (D.int (if M.fin i = true then 1 else 0)) = some (.int (((if M.fin i = true then [[]] else ([] : List (List Nat))).length : Nat) : Int))
    cases M.fin i <;> rfl
  · rw [List.getElem?_eq_none (by rw [ok.en]; omega), List.getElem?_eq_none (by simpa using hi)]
    rfl
def rowSum (M : Mch) (k : Nat) : D → Int
  | .tup cs => (cntInts M k cs).sum
  | _ => 0
theorem rowL_succ {M : Mch} (ok : M.Ok) (k : Nat) : (M.rows.map encR).filterMap (fun d => some (D.int (rowSum M k d))) = rowL M (k + 1) := by
  rw [show (fun d => some (D.int (rowSum M k d))) = some ∘ (fun d => D.int (rowSum M k d)) from rfl, List.filterMap_eq_map, List.map_map]
  apply List.ext_getElem?
  intro i
  unfold rowL
  rw [List.getElem?_map, List.getElem?_map]
  by_cases hi : i < M.rows.length
  · obtain ⟨r, h1, _⟩ := M.row ok hi
    rw [h1, List.getElem?_range hi]
    show some (D.int (cntInts M k (r.map encC)).sum) = some (.int (M.cnt (k + 1) i : Nat))
    rw [cnt_row ok h1]
  · rw [List.getElem?_eq_none (by omega), List.getElem?_eq_none (by simpa using hi)]
    rfl
theorem rows_mem {M : Mch} {d : D} (h : d ∈ M.rows.map encR) : ∃ r, r ∈ M.rows ∧ d = .tup (r.map encC) := by
  obtain ⟨r, h1, h2⟩ := List.mem_map.mp h
  exact ⟨r, h1, h2.symm⟩
/-- [row[item] for item in items if item is not None] summed, each row -/
theorem sum_lc {M : Mch} (ok : M.Ok) {k : Nat} {v0 v1 v3 v4 v5 v6 v7 : Option D} {keep : HD → Prop} {Q : List D → HD → Prop} {S : HD} (hk : keep S) (q : Q (rowL M (k + 1)) S) :
    lcD (gNameD 6) tYesD (tCallD rSumD (tConsD (tLcV (iAnyD (tSlot 6)) (gNameD 7) (tTst (tUnD rNotN (tSlot 7))) (tBin rIxX (tSlot 2) (tSlot 7)) [7]) (tNilD))) [v0, v1, some (.lst (rowL M k)), v3, v4, v5, v6, v7] keep Q (M.rows.map encR) [] S := by
  refine lcD_pure (fun d => some (.int (rowSum M k d))) hk _ _ (fun d hd Q1 Q0 h => ?_) (by rw [List.nil_append, rowL_succ ok]; exact q)
  obtain ⟨r, hr, rfl⟩ := rows_mem hd
  generalize hg7 : gNameD 7 = g7
  walk_at "rdx"
  subst hg7
  refine fun hz => ⟨hz, lcD_pure (fun d => if (!isN d) = true then some (.int (cellV M k d)) else none) trivial _ _ (fun d hd R1 R0 hh => ?_) ?_⟩
  · obtain ⟨c, hc, rfl⟩ := List.mem_map.mp hd
    cases c with
    | none => walk_at "rdx"; exact hh
    | some t =>
      have ht := ok.lt r hr _ hc t rfl
      have e := rowL_at (M := M) (k := k) ht
      walk_at "rdx"
      simp only [encC, isN, Bool.not_false, if_true, e]
      exact hh
  · have e : (r.map encC).filterMap (fun d => if (!isN d) = true then some (D.int (cellV M k d)) else none) = (cntInts M k (r.map encC)).map D.int := by
      unfold cntInts
      generalize r.map encC = xs
      induction xs with
      | nil => rfl
      | cons x xs ih =>
        rw [List.filterMap_cons, List.filter_cons]
        cases hx : isN x <;> simp only [Bool.not_false, Bool.not_true, if_true, Bool.false_eq_true, if_false, List.map_cons, ih]
    rw [List.nil_append, e, intsOf_map]
    exact h
def spCounts : SpD := fun ds S Q => ∃ (M : Mch) (n : Nat), ds = [enc M, .int (n : Nat)] ∧ M.Ok ∧ n ≤ 1000 ∧ Q (.lst ((List.range (n + 1)).map fun k => cntD M k 0)) S
theorem counts_len (ds : List D) (S : HD) (Q : QD) (h : spCounts ds S Q) : ds.length = 2 := by
  obtain ⟨_, _, rfl, _⟩ := h
  rfl
theorem del_hle {S S' : HD} {p : Addr} (u : Up 0 S S') (hp : S.hp p = none) : HLe S (S'.del p) := ⟨fun a o h => by
  have ne : a ≠ p := fun e => by rw [e, hp] at h; cases h
  simp only [HD.del, ne, if_false]
  exact u.hp a o h, u.c, u.dk.symm⟩
theorem counts_ok (ds : List D) (S : HD) (Q : QD) (h : spCounts ds S Q) : rd_counts (ends Q) (pad 8 ds) S := by
  obtain ⟨M, n, rfl, ok, hn, q⟩ := h
  unfold rd_counts
  have hsl : (sizeLine : Nat) = 16777216 := rfl
  refine seq_step fun N1 hN1 => ?_
  generalize hg : gNameD 5 = g
  unfold enc
  walk_at "rdx"
  simp only [at3_2]
  subst hg
  refine fun hz => ⟨hz, lcD_pure endI trivial _ _ (fun d hd Q1 Q0 h => ?_) ?_⟩
  · obtain ⟨b, _, rfl⟩ := List.mem_map.mp hd
    walk_at "rdx"
    exact h
  rw [List.nil_append, rowL_0 ok]
  refine hN1 _ _ ?_
  clear hN1 N1
  refine seq_step fun N1 hN1 => ?_
  walk_at "rdx"
  have e0 := rowL_at (M := M) (k := 0) (t := 0) ok.n1
  simp only [Int.natCast_zero] at e0
  simp only [e0]
  refine ⟨by decide, fun p hp => hN1 _ _ ?_⟩
  clear hN1 N1
  generalize hB : (sSeqD (sAsgD _ (gNameD 2)) (sDropD _) : TSD) = B1
  walk_at "rdx"
  subst hB
  refine ⟨⟨by omega, by omega⟩, loopD_go (fun i σ S' => (∃ v, σ = [some (enc M), some (.int (n : Nat)), some (.lst (rowL M i)), some (.ref p), v, none, none, none]) ∧ S'.hp p = some (.lst ((List.range (i + 1)).map fun k => cntD M k 0)) ∧ Up 0 S S') ⟨⟨none, rfl⟩, HD.set_same, (Up.refl S).new hp⟩ (fun i d σ S' N hi ⟨⟨v, e1⟩, e2, e3⟩ k => ⟨trivial, ?_⟩) fun σ S' ⟨⟨v, e1⟩, e2, e3⟩ => ⟨trivial, ?_⟩⟩
  · obtain ⟨hi1, rfl⟩ := rngD_get hi
    subst e1
    refine seq_step fun N1 hN1 => ?_
    generalize hg6 : gNameD 6 = g6
    generalize hT : (tCallD rSumD _ : TED) = T1
    unfold enc
    walk_at "rdx"
    simp only [at3_1]
    subst hg6 hT
    refine fun hz => ⟨hz, sum_lc ok trivial ?_⟩
    refine hN1 _ _ ?_
    clear hN1 N1
    walk_at "rdx"
    have e5 := rowL_at (M := M) (k := i + 1) (t := 0) ok.n1
    simp only [Int.natCast_zero] at e5
    simp only [e5, e2]
    refine ⟨⟨_, rfl⟩, by simp; omega, k _ _ ⟨⟨_, rfl⟩, ?_, e3.set hp⟩⟩
    rw [HD.set_same, List.range_succ (n := i + 1), List.map_append]
    rfl
  · subst e1
    rw [rngD_len] at e2
    walk_at "rdx"
    exact fin.frz e2 (del_hle e3 hp) q
def spCount : SpD := fun ds S Q => ∃ (M : Mch) (n : Nat), ds = [enc M, .int (n : Nat)] ∧ M.Ok ∧ n ≤ 1000 ∧ Q (cntD M n 0) S
theorem count_len (ds : List D) (S : HD) (Q : QD) (h : spCount ds S Q) : ds.length = 2 := by
  obtain ⟨_, _, rfl, _⟩ := h
  rfl
theorem count_ok (ds : List D) (S : HD) (Q : QD) (h : spCount ds S Q) : rd_count spCounts (ends Q) (pad 2 ds) S := by
  obtain ⟨M, n, rfl, ok, hn, q⟩ := h
  have q := fin.here q
  unfold rd_count
  walk_at "rdx"
  refine ⟨M, n, rfl, ok, hn, ?_⟩
  walk_at "rdx"
  have e : L2.atI ((List.range (n + 1)).map fun k => cntD M k 0) (-1) = some (cntD M n 0) := by
    unfold L2.atI L2.ixN
    rw [if_neg (by decide), if_pos (by simp; omega)]
    simp only [List.length_map, List.length_range]
    rw [show ((-1 : Int) + ((n + 1 : Nat) : Int)).toNat = n by omega]
    simp
  simp only [e]
  exact q
end PM
end

section
local macro_rules | `(tactic| walk_at "rdx") => `(tactic| simp only [PD.pad, PD.gt_z, PD.gt_s, PD.st_z, PD.st_s, PD.sNextD, PD.sSeqD, PD.sBreakD, PD.sContD, PD.sDropD, PD.sRetD, PD.sRetND, PD.sIfD, PD.sNeverD, PD.sAsgD, PD.sPar2, PD.sPar3, PD.gNameD, PD.gNilD, PD.gConsD, PD.gTupD, PD.gSubD, PD.tNilD, PD.tConsD, PD.tTupD, PD.tLstV, PD.tLstR, PD.tBin, PD.tTst, PD.tAndD, PD.tOrD, PD.tNotD, PD.tIfD, PD.tAndV, PD.tOrV, PD.tNotV, PD.tUnD, PD.rNeg, PD.tCallD, PD.tSlot, PD.tCD, PD.tChainD, PD.rIsN, PD.rNotN, PD.rIsiD, PD.isi_non, PD.isi_bl, PD.isi_int, PD.isi_str, PD.isi_tup, PD.isi_lst, PD.isi_dic, PD.Ty.name, PD.rCmpI, PD.fLt, PD.fLe, PD.fGt, PD.fGe, PD.rAddD, PD.rSubD, PD.rFdivD, PD.rModD, PD.rPowD, PD.rMulD, PD.rAddR, PD.rMulR, PD.asSeq, PD.asLst, PD.rLenD, PD.rTupleD, PD.rListV, PD.rListR, PD.rIntD, PD.rBoolD, PD.rAbsD, PD.rIxD, PD.oNone, PD.oSome, PD.tSlD, PD.rSlD, PD.tRevTD, PD.rEqD, PD.rNeD, PD.nrm_non, PD.nrm_bl, PD.nrm_int, PD.nrm_str, PD.nrm_tup, PD.nrm_lst, PD.nrm_dic, PD.nrm_ref, PD.iSeqD, PD.iRng1D, PD.iRng2D, PD.sForD, PD.tLcV, PD.tLcR, PD.tYesD, PD.wipeD, PD.tMethL, PD.rAppD, PD.isRefL, PD.tDicV, PD.keyOf, PD.asDic, PD.srcD, PD.iAnyD, PD.iZipD, PD.iEnumD, PD.tDcV, PD.tDicR, PD.gSubX, PD.rSetX, PD.rIxX, PD.rInD, PD.rInX, PD.rInY, PD.rSumD, PD.tRevLD, PD.tRevX, PD.rSixD, PD.rJoinD, PD.tMethS, PD.rLixD, PD.rPopD, PD.rExtD, PD.tMethA, PD.rSetD, PD.rReprD, PD.eqk_int, PD.eqd_int, PD.eqk_str, PD.eqd_str, PD.eqk_lst0, PD.eqd_lst0, PD.eqk_tup0, PD.eqd_tup0, PD.spFn, PD.spDraw, reduceIte, true_and, and_true, or_false, false_or, Bool.not_true, Bool.not_false, Bool.false_eq_true, List.length_cons, List.length_nil, List.set_cons_zero, List.set_cons_succ, PD.HD.set_same, PD.HD.tick_hp, PD.HD.tick_c, PD.HD.tick_dk, PD.HD.set_c, PD.HD.set_dk])
/-! PM5: the law's counts and words; moves_of. -/
namespace PM
open PySem PySem.Spec PyProof.Rows PD
def spLCounts : SpD := fun ds S Q => ∃ (M : Mch) (n : Nat), ds = [enc M, .int (n : Nat)] ∧ M.Ok ∧ n ≤ 1000 ∧ Q (.lst ((List.range (n + 1)).map fun k => .lst (rowL M k))) S
theorem lcounts_len (ds : List D) (S : HD) (Q : QD) (h : spLCounts ds S Q) : ds.length = 2 := by
  obtain ⟨_, _, rfl, _⟩ := h
  rfl
theorem lcounts_ok (ds : List D) (S : HD) (Q : QD) (h : spLCounts ds S Q) : rd__law_counts (ends Q) (pad 8 ds) S := by
  obtain ⟨M, n, rfl, ok, hn, q⟩ := h
  unfold rd__law_counts
  have hsl : (sizeLine : Nat) = 16777216 := rfl
  refine seq_step fun N1 hN1 => ?_
  generalize hg : gNameD 5 = g
  unfold enc
  walk_at "rdx"
  simp only [at3_2]
  subst hg
  refine fun hz => ⟨hz, lcD_pure endI trivial _ _ (fun d hd Q1 Q0 h => ?_) ?_⟩
  · obtain ⟨b, _, rfl⟩ := List.mem_map.mp hd
    walk_at "rdx"
    exact h
  rw [List.nil_append, rowL_0 ok]
  refine hN1 _ _ ?_
  clear hN1 N1
  refine seq_step fun N1 hN1 => ?_
  walk_at "rdx"
  refine ⟨by decide, fun p hp => hN1 _ _ ?_⟩
  clear hN1 N1
  generalize hB : (sSeqD (sAsgD _ (gNameD 2)) (sDropD _) : TSD) = B1
  walk_at "rdx"
  subst hB
  refine ⟨⟨by omega, by omega⟩, loopD_go (fun i σ S' => (∃ v, σ = [some (enc M), some (.int (n : Nat)), some (.lst (rowL M i)), some (.ref p), v, none, none, none]) ∧ S'.hp p = some (.lst ((List.range (i + 1)).map fun k => .lst (rowL M k))) ∧ Up 0 S S') ⟨⟨none, rfl⟩, HD.set_same, (Up.refl S).new hp⟩ (fun i d σ S' N hi ⟨⟨v, e1⟩, e2, e3⟩ k => ⟨trivial, ?_⟩) fun σ S' ⟨⟨v, e1⟩, e2, e3⟩ => ⟨trivial, ?_⟩⟩
  · obtain ⟨hi1, rfl⟩ := rngD_get hi
    subst e1
    refine seq_step fun N1 hN1 => ?_
    generalize hg6 : gNameD 6 = g6
    generalize hT : (tCallD rSumD _ : TED) = T1
    unfold enc
    walk_at "rdx"
    simp only [at3_1]
    subst hg6 hT
    refine fun hz => ⟨hz, sum_lc ok trivial ?_⟩
    refine hN1 _ _ ?_
    clear hN1 N1
    walk_at "rdx"
    simp only [e2]
    refine ⟨⟨_, rfl⟩, by simp; omega, k _ _ ⟨⟨_, rfl⟩, ?_, e3.set hp⟩⟩
    rw [HD.set_same, List.range_succ (n := i + 1), List.map_append]
    rfl
  · subst e1
    rw [rngD_len] at e2
    walk_at "rdx"
    exact fin.frz e2 (del_hle e3 hp) q
/-! ### all words -/
def wordsL (L : Nat) : Nat → List (List Nat)
  | 0 => [[]]
  | n + 1 => (wordsL L n).flatMap fun w => (List.range L).map fun c => w ++ [c]
theorem wordsL_ok {L n : Nat} : ∀ w ∈ wordsL L n, w.length = n ∧ ∀ c ∈ w, c < L := by
  induction n with
  | zero => intro w h; rw [List.mem_singleton.mp h]; exact ⟨rfl, fun c hc => (by cases hc)⟩
  | succ n ih =>
    intro w h
    obtain ⟨u, h1, h2⟩ := List.mem_flatMap.mp h
    obtain ⟨c, h3, rfl⟩ := List.mem_map.mp h2
    obtain ⟨a, b⟩ := ih u h1
    refine ⟨by simp [a], fun x hx => ?_⟩
    rcases List.mem_append.mp hx with h | h
    · exact b x h
    · rw [List.mem_singleton.mp h]; exact List.mem_range.mp h3
theorem wordsL_len (L n : Nat) : (wordsL L n).length = L ^ n := by
  induction n with
  | zero => rfl
  | succ n ih =>
    show ((wordsL L n).flatMap fun w => (List.range L).map fun c => w ++ [c]).length = _
    rw [List.length_flatMap]
    simp only [List.length_map, List.length_range]
    have : ∀ xs : List (List Nat), (xs.map fun _ => L).sum = xs.length * L := by
      intro xs
      induction xs with
      | nil => simp
      | cons x xs ih => simp [ih, Nat.add_mul, Nat.add_comm]
    rw [this, ih, Nat.pow_succ]
def wD (w : List Nat) : D := .str (wstr w)
theorem wstr_app (w : List Nat) (c : Nat) : wstr w ++ sgn c = wstr (w ++ [c]) := by
  show Str.mk ((w.map (97 + ·)).toArray ++ #[97 + c]) = _
  unfold wstr
  congr 1
  simp
theorem wstr_len (w : List Nat) : (wstr w).length = w.length := by
  show (w.map (97 + ·)).toArray.size = _
  simp
theorem cut_abc {L : Nat} (h : L ≤ 3) : L2.cutS (Str.ofString "abc") none (some (L : Int)) = wstr (List.range L) := by
  match L, h with
  | 0, _ => decide +kernel
  | 1, _ => decide +kernel
  | 2, _ => decide +kernel
  | 3, _ => decide +kernel
theorem abc_len : (Str.ofString "abc").length = 3 := by decide +kernel
/-- the words of one word longer -/
theorem longer_lc {keep : HD → Prop} {Q : List D → HD → Prop} {S : HD} {L : Nat} {w : List Nat} {v0 v1 v2 v3 v4 v6 : Option D} (hk : keep S) (hw : w.length ≤ 1000) (q : Q ((List.range L).map fun c => wD (w ++ [c])) S) :
    lcD (gNameD 6) tYesD (tBin rAddD (tSlot 5) (tSlot 6)) [v0, v1, v2, v3, v4, some (wD w), v6] keep Q (signsD (wstr (List.range L))) [] S := by
  rw [signsD_w]
  refine lcD_pure (fun d => match d with
    | .str z => some (.str (wstr w ++ z))
    | _ => none) hk _ _ (fun d hd Q1 Q0 h => ?_) ?_
  · obtain ⟨c, hc, rfl⟩ := List.mem_map.mp hd
    unfold wD
    walk_at "rdx"
    refine ⟨?_, h⟩
    rw [wstr_len]
    show w.length + 1 ≤ 16777216
    omega
  · rw [List.nil_append, List.filterMap_map]
    have e : ((fun d => match d with
      | .str z => some (.str (wstr w ++ z))
      | _ => none) ∘ fun c => D.str (sgn c)) = some ∘ fun c => wD (w ++ [c]) := by
      funext c
      show some (D.str (wstr w ++ sgn c)) = some (.str (wstr (w ++ [c])))
      rw [wstr_app]
    rw [e, List.filterMap_eq_map]
    exact q
end PM
end

section
local macro_rules | `(tactic| walk_at "rdx") => `(tactic| simp only [PD.pad, PD.gt_z, PD.gt_s, PD.st_z, PD.st_s, PD.sNextD, PD.sSeqD, PD.sBreakD, PD.sContD, PD.sDropD, PD.sRetD, PD.sRetND, PD.sIfD, PD.sNeverD, PD.sAsgD, PD.sPar2, PD.sPar3, PD.gNameD, PD.gNilD, PD.gConsD, PD.gTupD, PD.gSubD, PD.tNilD, PD.tConsD, PD.tTupD, PD.tLstV, PD.tLstR, PD.tBin, PD.tTst, PD.tAndD, PD.tOrD, PD.tNotD, PD.tIfD, PD.tAndV, PD.tOrV, PD.tNotV, PD.tUnD, PD.rNeg, PD.tCallD, PD.tSlot, PD.tCD, PD.tChainD, PD.rIsN, PD.rNotN, PD.rIsiD, PD.isi_non, PD.isi_bl, PD.isi_int, PD.isi_str, PD.isi_tup, PD.isi_lst, PD.isi_dic, PD.Ty.name, PD.rCmpI, PD.fLt, PD.fLe, PD.fGt, PD.fGe, PD.rAddD, PD.rSubD, PD.rFdivD, PD.rModD, PD.rPowD, PD.rMulD, PD.rAddR, PD.rMulR, PD.asSeq, PD.asLst, PD.rLenD, PD.rTupleD, PD.rListV, PD.rListR, PD.rIntD, PD.rBoolD, PD.rAbsD, PD.rIxD, PD.oNone, PD.oSome, PD.tSlD, PD.rSlD, PD.tRevTD, PD.rEqD, PD.rNeD, PD.nrm_non, PD.nrm_bl, PD.nrm_int, PD.nrm_str, PD.nrm_tup, PD.nrm_lst, PD.nrm_dic, PD.nrm_ref, PD.iSeqD, PD.iRng1D, PD.iRng2D, PD.sForD, PD.tLcV, PD.tLcR, PD.tYesD, PD.wipeD, PD.tMethL, PD.rAppD, PD.isRefL, PD.tDicV, PD.keyOf, PD.asDic, PD.srcD, PD.iAnyD, PD.iZipD, PD.iEnumD, PD.tDcV, PD.tDicR, PD.gSubX, PD.rSetX, PD.rIxX, PD.rInD, PD.rInX, PD.rInY, PD.rSumD, PD.tRevLD, PD.tRevX, PD.rSixD, PD.rJoinD, PD.tMethS, PD.rLixD, PD.rPopD, PD.rExtD, PD.tMethA, PD.rSetD, PD.rReprD, PD.eqk_int, PD.eqd_int, PD.eqk_str, PD.eqd_str, PD.eqk_lst0, PD.eqd_lst0, PD.eqk_tup0, PD.eqd_tup0, PD.spFn, PD.spDraw, reduceIte, true_and, and_true, or_false, false_or, Bool.not_true, Bool.not_false, Bool.false_eq_true, List.length_cons, List.length_nil, List.set_cons_zero, List.set_cons_succ, PD.HD.set_same, PD.HD.tick_hp, PD.HD.tick_c, PD.HD.tick_dk, PD.HD.set_c, PD.HD.set_dk])
/-! PM6: the readings of the law's words and of moves_of. -/
namespace PM
open PySem PySem.Spec PyProof.Rows PD
def spWords : SpD := fun ds S Q => ∃ L n : Nat, ds = [.int (L : Nat), .int (n : Nat)] ∧ L ≤ 3 ∧ n ≤ 10 ∧ Q (.lst ((wordsL L n).map wD)) S
theorem words_len (ds : List D) (S : HD) (Q : QD) (h : spWords ds S Q) : ds.length = 2 := by
  obtain ⟨_, _, rfl, _⟩ := h
  rfl
/-- a list that stands: frozen, or tracked since the start -/
def Stands (S0 S : HD) (d : D) (xs : List D) : Prop := d = .lst xs ∨ ∃ p, d = .ref p ∧ S0.hp p = none ∧ S.hp p = some (.lst xs)
theorem Stands.src {S0 S : HD} {d : D} {xs : List D} (h : Stands S0 S d xs) : ∃ keep, srcD S d = some (xs, keep) ∧ (∀ z, d ≠ .str z) ∧ ∀ S', Stands S0 S' d xs → keep S' := by
  rcases h with e | ⟨p, e, _, h⟩
  · subst e
    exact ⟨fun _ => True, rfl, fun z q => (by cases q), fun _ _ => trivial⟩
  · subst e
    refine ⟨fun S' => S'.hp p = some (.lst xs), ?_, fun z q => (by cases q), fun S' k => ?_⟩
    · simp only [srcD, h]
    · rcases k with e | ⟨p', e, _, h'⟩
      · cases e
      · cases e; exact h'
theorem Stands.set {S0 S : HD} {d : D} {xs : List D} {p : Addr} {o : OD} (h : Stands S0 S d xs) (hp : S.hp p = none) : Stands S0 (S.set p o) d xs :=
  h.imp id fun ⟨p', a, b, c⟩ => ⟨p', a, b, by rw [HD.set_ne fun e => by rw [e, hp] at c; cases c]; exact c⟩
theorem Stands.ret {S S' : HD} {d : D} {xs : List D} {Q : QD} (h : Stands S S' d xs) (u : Up 0 S S') (q : Q (.lst xs) S) : fin Q d S' := by
  rcases h with e | ⟨p, e, hp, h⟩
  · subst e
    exact fin.le ⟨u.hp, u.c, u.dk.symm⟩ q
  · subst e
    exact fin.frz h (del_hle u hp) q
theorem lawWords_ok (ds : List D) (S : HD) (Q : QD) (h : spWords ds S Q) : rd__law_words (ends Q) (pad 7 ds) S := by
  obtain ⟨L, n, rfl, hL, hn, q⟩ := h
  unfold rd__law_words
  have hsl : (sizeLine : Nat) = 16777216 := rfl
  refine seq_step fun N1 hN1 => ?_
  walk_at "rdx"
  refine ⟨by decide, hN1 _ _ ?_⟩
  clear hN1 N1
  generalize hB : (sSeqD (sAsgD (tLstR tNilD) (gNameD 4)) _ : TSD) = B1
  walk_at "rdx"
  subst hB
  refine ⟨⟨by omega, by omega⟩, loopD_go (fun i σ S' => (∃ fd v3 v4 v5, σ = [some (.int (L : Nat)), some (.int (n : Nat)), some fd, v3, v4, v5, none] ∧ Stands S S' fd ((wordsL L i).map wD)) ∧ Up 0 S S') ⟨⟨_, none, none, none, rfl, .inl rfl⟩, Up.refl S⟩ (fun i d σ S' N hi ⟨⟨fd, v3, v4, v5, e1, e2⟩, e3⟩ k => ⟨trivial, ?_⟩) fun σ S' ⟨⟨fd, v3, v4, v5, e1, e2⟩, e3⟩ => ⟨trivial, ?_⟩⟩
  · obtain ⟨hi1, rfl⟩ := rngD_get hi
    have hi2 : i < 10 := by omega
    subst e1
    refine seq_step fun N1 hN1 => ?_
    walk_at "rdx"
    refine ⟨by decide, fun p hp => hN1 _ _ ?_⟩
    clear hN1 N1
    refine seq_step fun N1 hN1 => ?_
    generalize hB : (sDropD _ : TSD) = B1
    simp only [sForD, iAnyD, tSlot, gt_z, gt_s]
    obtain ⟨keep, s1, s2, s3⟩ := (e2.set (o := .lst []) hp).src
    have s4 : ∀ ys, keep (S'.set p (.lst ys)) := fun ys => s3 _ (e2.set hp)
    rw [s1]
    have go : ∀ bk ct, loopD (gNameD 5) B1 { nx := N1, rt := fin Q, bk := bk, ct := ct } keep ((wordsL L i).map wD) [some (.int (L : Nat)), some (.int (n : Nat)), some fd, some (.int (0 + (i : Int))), some (.ref p), v5, none] (S'.set p (.lst [])) := by
      intro bk ct
      subst hB
      refine loopD_go (fun j σ S2 => (∃ v, σ = [some (.int (L : Nat)), some (.int (n : Nat)), some fd, some (.int (0 + (i : Int))), some (.ref p), v, none]) ∧ ∃ ys, S2 = (S'.set p (.lst (ys.map wD))) ∧ ys = ((wordsL L i).take j).flatMap fun w => (List.range L).map fun c => w ++ [c]) ⟨⟨_, rfl⟩, [], rfl, rfl⟩ (fun j d σ S2 N2 hj ⟨⟨v, e4⟩, ys, e5, e6⟩ kk => ?_) fun σ S2 ⟨⟨v, e4⟩, ys, e5, e6⟩ => ?_
      · rw [List.getElem?_map] at hj
        obtain ⟨w, hw, rfl⟩ := Option.map_eq_some_iff.mp hj
        have hwm := List.mem_of_getElem? hw
        obtain ⟨w1, w2⟩ := wordsL_ok w hwm
        subst e4 e5
        refine ⟨s4 _, ?_⟩
        · generalize hg : gNameD 6 = g6
          generalize hT : (tBin rAddD _ _ : TED) = T1
          walk_at "rdx"
          subst hg hT
          rw [cut_abc hL]
          refine ⟨⟨ys.map wD, by simp only [asLst, HD.set_same]⟩, by rw [abc_len]; decide, ?_, ?_⟩
          · rw [signsD_w]; simp; omega
          refine longer_lc trivial (by omega) ?_
          simp only [HD.set_same]
          refine ⟨?_, kk _ _ ⟨⟨_, rfl⟩, ys ++ (List.range L).map (fun c => w ++ [c]), ?_, ?_⟩⟩
          · simp only [List.length_map, List.length_range]
            have hy : ys.length ≤ 3 ^ 11 := by
              have l1 : ys.length = ((wordsL L i).take j).length * L := by
                rw [e6, List.length_flatMap]
                simp only [List.length_map, List.length_range]
                generalize (wordsL L i).take j = xs
                induction xs with
                | nil => simp
                | cons x xs ih => simp [ih, Nat.add_mul, Nat.add_comm]
              have l2 : ((wordsL L i).take j).length ≤ L ^ i := by rw [List.length_take, wordsL_len]; exact Nat.min_le_right _ _
              have l3 : L ^ i ≤ 3 ^ 10 := Nat.le_trans (Nat.pow_le_pow_left hL i) (Nat.pow_le_pow_right (by decide) (by omega))
              rw [l1]
              exact Nat.le_trans (Nat.mul_le_mul (Nat.le_trans l2 l3) hL) (by decide)
            have : (3 : Nat) ^ 11 = 177147 := by decide
            omega
          · rw [HD.set_set, List.map_append, List.map_map]
            rfl
          · rw [List.take_add_one, hw, List.flatMap_append, e6]
            simp
      · subst e4 e5
        have hys : ys = wordsL L (i + 1) := by
          rw [e6, List.take_of_length_le (by simp)]
          rfl
        subst hys
        refine ⟨s4 _, hN1 _ _ ?_⟩
        · walk_at "rdx"
          exact k _ _ ⟨⟨_, _, _, _, rfl, .inr ⟨p, rfl, e3.none hp, HD.set_same⟩⟩, e3.new hp⟩
    cases fd <;> first | exact (s2 _ rfl).elim | (dsimp only; exact fun _ => go _ _)
  · subst e1
    rw [rngD_len] at e2
    walk_at "rdx"
    exact Stands.ret e2 e3 q
end PM
end

section
local macro_rules | `(tactic| walk_at "rdx") => `(tactic| simp only [PD.pad, PD.gt_z, PD.gt_s, PD.st_z, PD.st_s, PD.sNextD, PD.sSeqD, PD.sBreakD, PD.sContD, PD.sDropD, PD.sRetD, PD.sRetND, PD.sIfD, PD.sNeverD, PD.sAsgD, PD.sPar2, PD.sPar3, PD.gNameD, PD.gNilD, PD.gConsD, PD.gTupD, PD.gSubD, PD.tNilD, PD.tConsD, PD.tTupD, PD.tLstV, PD.tLstR, PD.tBin, PD.tTst, PD.tAndD, PD.tOrD, PD.tNotD, PD.tIfD, PD.tAndV, PD.tOrV, PD.tNotV, PD.tUnD, PD.rNeg, PD.tCallD, PD.tSlot, PD.tCD, PD.tChainD, PD.rIsN, PD.rNotN, PD.rIsiD, PD.isi_non, PD.isi_bl, PD.isi_int, PD.isi_str, PD.isi_tup, PD.isi_lst, PD.isi_dic, PD.Ty.name, PD.rCmpI, PD.fLt, PD.fLe, PD.fGt, PD.fGe, PD.rAddD, PD.rSubD, PD.rFdivD, PD.rModD, PD.rPowD, PD.rMulD, PD.rAddR, PD.rMulR, PD.asSeq, PD.asLst, PD.rLenD, PD.rTupleD, PD.rListV, PD.rListR, PD.rIntD, PD.rBoolD, PD.rAbsD, PD.rIxD, PD.oNone, PD.oSome, PD.tSlD, PD.rSlD, PD.tRevTD, PD.rEqD, PD.rNeD, PD.nrm_non, PD.nrm_bl, PD.nrm_int, PD.nrm_str, PD.nrm_tup, PD.nrm_lst, PD.nrm_dic, PD.nrm_ref, PD.iSeqD, PD.iRng1D, PD.iRng2D, PD.sForD, PD.tLcV, PD.tLcR, PD.tYesD, PD.wipeD, PD.tMethL, PD.rAppD, PD.isRefL, PD.tDicV, PD.keyOf, PD.asDic, PD.srcD, PD.iAnyD, PD.iZipD, PD.iEnumD, PD.tDcV, PD.tDicR, PD.gSubX, PD.rSetX, PD.rIxX, PD.rInD, PD.rInX, PD.rInY, PD.rSumD, PD.tRevLD, PD.tRevX, PD.rSixD, PD.rJoinD, PD.tMethS, PD.rLixD, PD.rPopD, PD.rExtD, PD.tMethA, PD.rSetD, PD.rReprD, PD.eqk_int, PD.eqd_int, PD.eqk_str, PD.eqd_str, PD.eqk_lst0, PD.eqd_lst0, PD.eqk_tup0, PD.eqd_tup0, PD.spFn, PD.spDraw, reduceIte, true_and, and_true, or_false, false_or, Bool.not_true, Bool.not_false, Bool.false_eq_true, List.length_cons, List.length_nil, List.set_cons_zero, List.set_cons_succ, PD.HD.set_same, PD.HD.tick_hp, PD.HD.tick_c, PD.HD.tick_dk, PD.HD.set_c, PD.HD.set_dk])
/-! PM7: moves_of; loops by a measure. -/
namespace PM
open PySem PySem.Spec PyProof.Rows PD
def mvD (p : Nat × Nat) : D := .tup [.str (sgn p.1), .int (p.1 : Nat), .int (p.2 : Nat)]
def spMoves : SpD := fun ds S Q => ∃ (M : Mch) (s : Nat), ds = [enc M, .int (s : Nat)] ∧ M.Ok ∧ s < M.rows.length ∧ Q (.lst ((M.kids s).map mvD)) S
theorem moves_len (ds : List D) (S : HD) (Q : QD) (h : spMoves ds S Q) : ds.length = 2 := by
  obtain ⟨_, _, rfl, _⟩ := h
  rfl
def mvF : D → Option D
  | .tup [.int c, .int t] => some (mvD (c.toNat, t.toNat))
  | _ => none
theorem enum_kids {M : Mch} {s : Nat} {r : List (Option Nat)} (h : M.rows[s]? = some r) (hl : r.length = M.L) : (enumD (r.map encC)).filterMap mvF = (M.kids s).map mvD := by
  have e1 : enumD (r.map encC) = (List.range M.L).map fun c => .tup [.int (c : Nat), encC ((r[c]?).bind id)] := by
    apply List.ext_getElem?
    intro i
    unfold enumD
    rw [List.getElem?_map, List.getElem?_zipIdx, List.getElem?_map, List.getElem?_map]
    by_cases hi : i < M.L
    · have hi' : i < r.length := by rw [hl]; exact hi
      rw [List.getElem?_range hi, List.getElem?_eq_getElem hi']
      simp [hi']
    · rw [List.getElem?_eq_none (by rw [hl]; omega), List.getElem?_eq_none (by simpa using hi)]
      rfl
  rw [e1, List.filterMap_map]
  unfold Mch.kids
  rw [List.map_filterMap]
  apply congrArg (fun f => List.filterMap f _)
  funext c
  show mvF (.tup [.int (c : Nat), encC ((r[c]?).bind id)]) = ((M.nx s c).map fun t => (c, t)).map mvD
  have e2 : M.nx s c = (r[c]?).bind id := by unfold Mch.nx; rw [h]; rfl
  rw [e2]
  cases (r[c]?).bind id with
  | none => rfl
  | some t => rfl
theorem abc_at {c : Nat} (h : c < 3) : L2.atI (Str.ofString "abc").cps.toList (c : Int) = some (97 + c) := by
  match c, h with
  | 0, _ => decide +kernel
  | 1, _ => decide +kernel
  | 2, _ => decide +kernel
theorem movesOf_ok (ds : List D) (S : HD) (Q : QD) (h : spMoves ds S Q) : rd_moves_of (ends Q) (pad 5 ds) S := by
  obtain ⟨M, s, rfl, ok, hs, q⟩ := h
  have q := fin.here q
  unfold rd_moves_of
  obtain ⟨r, h1, h2, h3⟩ := M.row ok hs
  have e := atI_map (f := encR) h1
  have hsl : (sizeLine : Nat) = 16777216 := rfl
  have l3 := ok.l3
  refine seq_step fun N1 hN1 => ?_
  unfold enc
  walk_at "rdx"
  simp only [at3_1, e]
  refine hN1 _ _ ?_
  clear hN1 N1
  unfold encR
  generalize hg : (gTupD 2 _ : TGD) = g
  walk_at "rdx"
  subst hg
  refine ⟨by rw [enumD_len, List.length_map]; omega, lcD_pure mvF trivial _ _ (fun d hd Q1 Q0 h => ?_) ?_⟩
  · obtain ⟨i, hi⟩ := List.mem_iff_getElem?.mp hd
    obtain ⟨x, hx, rfl⟩ := enumD_get hi
    rw [List.getElem?_map] at hx
    obtain ⟨c, hc, rfl⟩ := Option.map_eq_some_iff.mp hx
    have hil : i < r.length := (List.getElem?_eq_some_iff.mp hc).1
    cases c with
    | none => walk_at "rdx"; exact h
    | some t =>
      have e3 := abc_at (c := i) (by omega)
      walk_at "rdx"
      simp only [encC, isN, Bool.not_false, if_true, e3]
      exact ⟨by rw [abc_len]; decide, by decide, h⟩
  · rw [List.nil_append, enum_kids h1 h2]
    exact q
/-! ### while, by a measure -/
theorem while_go {c : TTD} {tb : TSD} {E : EndsD} (I : Nat → SD → HD → Prop)
    (step : ∀ (n : Nat) (σ : SD) (S : HD) (N : SD → HD → Prop), I n σ S → (∀ m σ S, m < n → I m σ S → N σ S) → c σ S fun b S1 => if b = true then tb { nx := N, ct := N, bk := E.nx, rt := E.rt } σ S1 else E.nx σ S1)
    {n : Nat} {σ : SD} {S : HD} (h : I n σ S) : sWhileD c tb E σ S := by
  refine ⟨n + 1, ?_⟩
  have key : ∀ k n σ S, n < k → I n σ S → whileN c tb E k σ S := by
    intro k
    induction k with
    | zero => intro n σ S hn; exact absurd hn (Nat.not_lt_zero n)
    | succ k ih => intro n σ S hn hI; exact step n σ S _ hI fun m σ S hm h => ih m σ S (by omega) h
  exact key (n + 1) n σ S (Nat.lt_succ_self n) h
/-! ### the stack -/
def Mch.W (M : Mch) : Nat → Nat → Nat
  | 0, _ => 1
  | k + 1, s => 1 + (((M.kids s).filter fun p => M.opn k p.2).map fun p => M.W k p.2).sum
theorem A_open (M : Mch) (k s : Nat) : M.A (k + 1) s = ((M.kids s).filter fun p => M.opn k p.2).flatMap fun p => (M.A k p.2).map (p.1 :: ·) := by
  show (M.kids s).flatMap _ = _
  induction M.kids s with
  | nil => rfl
  | cons p ps ih =>
    rw [List.flatMap_cons, List.filter_cons, ih]
    cases h : M.opn k p.2 with
    | true => rw [if_pos rfl, List.flatMap_cons]
    | false =>
      have : M.A k p.2 = [] := by
        unfold Mch.opn at h
        simpa using h
      rw [if_neg Bool.false_ne_true, this]
      rfl
theorem A_len (M : Mch) : ∀ (k s : Nat) (w : List Nat), w ∈ M.A k s → w.length = k
  | 0, s, w, h => by
    unfold Mch.A at h
    split at h
    · rw [List.mem_singleton.mp h]; rfl
    · cases h
  | k + 1, s, w, h => by
    obtain ⟨p, _, h2⟩ := List.mem_flatMap.mp (show w ∈ (M.kids s).flatMap fun p => (M.A k p.2).map (p.1 :: ·) from h)
    obtain ⟨u, h3, rfl⟩ := List.mem_map.mp h2
    simp [A_len M k p.2 u h3]
/-- what the stack still gives, the top first -/
def remW (M : Mch) (n : Nat) (st : List (List Nat × Nat)) : List (List Nat) := st.reverse.flatMap fun p => (M.A (n - p.1.length) p.2).map (p.1 ++ ·)
def weight (M : Mch) (n : Nat) (st : List (List Nat × Nat)) : Nat := (st.map fun p => M.W (n - p.1.length) p.2).sum
def entD (p : List Nat × Nat) : D := .tup [wD p.1, .int (p.2 : Nat)]
theorem remW_snoc (M : Mch) (n : Nat) (st : List (List Nat × Nat)) (p : List Nat × Nat) : remW M n (st ++ [p]) = (M.A (n - p.1.length) p.2).map (p.1 ++ ·) ++ remW M n st := by
  unfold remW
  rw [List.reverse_append]
  rfl
theorem weight_app (M : Mch) (n : Nat) (a b : List (List Nat × Nat)) : weight M n (a ++ b) = weight M n a + weight M n b := by
  unfold weight
  rw [List.map_append, List.sum_append]
/-- the moves that are open, with their words -/
def opens (M : Mch) (k : Nat) (w : List Nat) (s : Nat) : List (List Nat × Nat) := ((M.kids s).filter fun p => M.opn k p.2).map fun p => (w ++ [p.1], p.2)
theorem rem_push (M : Mch) (n k : Nat) (w : List Nat) (s : Nat) (st : List (List Nat × Nat)) (h : w.length + (k + 1) = n) : remW M n (st ++ (opens M k w s).reverse) = remW M n (st ++ [(w, s)]) := by
  rw [remW_snoc]
  have e1 : n - w.length = k + 1 := by omega
  show _ = (M.A (n - w.length) s).map (w ++ ·) ++ _
  rw [e1, A_open, List.map_flatMap]
  unfold remW opens
  rw [List.reverse_append, List.reverse_reverse, List.flatMap_append]
  congr 1
  rw [List.flatMap_map]
  apply congrArg (fun f => List.flatMap f _)
  funext p
  show (M.A (n - (w ++ [p.1]).length) p.2).map ((w ++ [p.1]) ++ ·) = ((M.A k p.2).map (p.1 :: ·)).map (w ++ ·)
  have e2 : n - (w ++ [p.1]).length = k := by rw [List.length_append, List.length_singleton]; omega
  rw [e2, List.map_map]
  apply congrArg (fun f => List.map f _)
  funext u
  simp
theorem weight_push (M : Mch) (n k : Nat) (w : List Nat) (s : Nat) (h : w.length + (k + 1) = n) : weight M n (opens M k w s).reverse + 1 = M.W (n - w.length) s := by
  have e1 : n - w.length = k + 1 := by omega
  rw [e1]
  show _ = 1 + _
  unfold weight opens
  rw [List.map_reverse, List.sum_reverse, List.map_map, Nat.add_comm]
  congr 2
  apply congrArg (fun f => List.map f _)
  funext p
  show M.W (n - (w ++ [p.1]).length) p.2 = M.W k p.2
  have e2 : n - (w ++ [p.1]).length = k := by rw [List.length_append, List.length_singleton]; omega
  rw [e2]
end PM
end

section
local macro_rules | `(tactic| walk_at "rdx") => `(tactic| simp only [PD.pad, PD.gt_z, PD.gt_s, PD.st_z, PD.st_s, PD.sNextD, PD.sSeqD, PD.sBreakD, PD.sContD, PD.sDropD, PD.sRetD, PD.sRetND, PD.sIfD, PD.sNeverD, PD.sAsgD, PD.sPar2, PD.sPar3, PD.gNameD, PD.gNilD, PD.gConsD, PD.gTupD, PD.gSubD, PD.tNilD, PD.tConsD, PD.tTupD, PD.tLstV, PD.tLstR, PD.tBin, PD.tTst, PD.tAndD, PD.tOrD, PD.tNotD, PD.tIfD, PD.tAndV, PD.tOrV, PD.tNotV, PD.tUnD, PD.rNeg, PD.tCallD, PD.tSlot, PD.tCD, PD.tChainD, PD.rIsN, PD.rNotN, PD.rIsiD, PD.isi_non, PD.isi_bl, PD.isi_int, PD.isi_str, PD.isi_tup, PD.isi_lst, PD.isi_dic, PD.Ty.name, PD.rCmpI, PD.fLt, PD.fLe, PD.fGt, PD.fGe, PD.rAddD, PD.rSubD, PD.rFdivD, PD.rModD, PD.rPowD, PD.rMulD, PD.rAddR, PD.rMulR, PD.asSeq, PD.asLst, PD.rLenD, PD.rTupleD, PD.rListV, PD.rListR, PD.rIntD, PD.rBoolD, PD.rAbsD, PD.rIxD, PD.oNone, PD.oSome, PD.tSlD, PD.rSlD, PD.tRevTD, PD.rEqD, PD.rNeD, PD.nrm_non, PD.nrm_bl, PD.nrm_int, PD.nrm_str, PD.nrm_tup, PD.nrm_lst, PD.nrm_dic, PD.nrm_ref, PD.iSeqD, PD.iRng1D, PD.iRng2D, PD.sForD, PD.tLcV, PD.tLcR, PD.tYesD, PD.wipeD, PD.tMethL, PD.rAppD, PD.isRefL, PD.tDicV, PD.keyOf, PD.asDic, PD.srcD, PD.iAnyD, PD.iZipD, PD.iEnumD, PD.tDcV, PD.tDicR, PD.gSubX, PD.rSetX, PD.rIxX, PD.rInD, PD.rInX, PD.rInY, PD.rSumD, PD.tRevLD, PD.tRevX, PD.rSixD, PD.rJoinD, PD.tMethS, PD.rLixD, PD.rPopD, PD.rExtD, PD.tMethA, PD.rSetD, PD.rReprD, PD.eqk_int, PD.eqd_int, PD.eqk_str, PD.eqd_str, PD.eqk_lst0, PD.eqd_lst0, PD.eqk_tup0, PD.eqd_tup0, PD.spFn, PD.spDraw, reduceIte, true_and, and_true, or_false, false_or, Bool.not_true, Bool.not_false, Bool.false_eq_true, List.length_cons, List.length_nil, List.set_cons_zero, List.set_cons_succ, PD.HD.set_same, PD.HD.tick_hp, PD.HD.tick_c, PD.HD.tick_dk, PD.HD.set_c, PD.HD.set_dk])
/-! PM8: told. -/
namespace PM
open PySem PySem.Spec PyProof.Rows PD
def spTold : SpD := fun ds S Q => ∃ (M : Mch) (n m : Nat), ds = [enc M, .int (n : Nat), .int (m : Nat)] ∧ M.Ok ∧ n ≤ 1000 ∧ m ≤ 1000 ∧ Q (.tup (((M.A n 0).take m).map wD)) S
theorem told_len (ds : List D) (S : HD) (Q : QD) (h : spTold ds S Q) : ds.length = 3 := by
  obtain ⟨_, _, _, rfl, _⟩ := h
  rfl
structure Inv (M : Mch) (n m : Nat) (pf pw : Addr) (S0 : HD) (k : Nat) (σ : SD) (S : HD) (found : List (List Nat)) (st : List (List Nat × Nat)) : Prop where
  sg : ∃ v6 v7 v8 v9, σ = [some (enc M), some (.int (n : Nat)), some (.int (m : Nat)), some (.lst ((List.range (n + 1)).map (layD M))), some (.ref pf), some (.ref pw), v6, v7, v8, v9, none, none, none]
  hf : S.hp pf = some (.lst (found.map wD))
  hw : S.hp pw = some (.lst (st.map entD))
  ne : pf ≠ pw
  n0 : S0.hp pf = none
  n1 : S0.hp pw = none
  up : Up 0 S0 S
  ok : ∀ p ∈ st, p.1.length ≤ n ∧ p.2 < M.rows.length ∧ M.opn (n - p.1.length) p.2 = true
  dp : ∀ (i : Nat) (p : List Nat × Nat), st[i]? = some p → i ≤ 2 * p.1.length
  rm : found ++ remW M n st = M.A n 0
  lm : found.length ≤ m
  wt : k = weight M n st
theorem layers_at {M : Mch} {n k : Nat} (h : k ≤ n) : L2.atI ((List.range (n + 1)).map (layD M)) (k : Int) = some (layD M k) := atI_map (by rw [List.getElem?_range (by omega)])
def opF (M : Mch) (k : Nat) (w : List Nat) : D → Option D
  | .tup [.str z, .int _, .int t] => if M.opn k t.toNat = true then some (D.tup [.str (wstr w ++ z), .int t]) else none
  | _ => none
theorem opF_mv (M : Mch) (k : Nat) (w : List Nat) (p : Nat × Nat) : opF M k w (mvD p) = if M.opn k p.2 = true then some (entD (w ++ [p.1], p.2)) else none := by
  show (if M.opn k ((p.2 : Nat) : Int).toNat = true then some (D.tup [.str (wstr w ++ sgn p.1), .int (p.2 : Nat)]) else none) = _
  rw [Int.toNat_natCast, wstr_app]
  rfl
theorem moves_lc {M : Mch} (ok : M.Ok) {k s : Nat} {w : List Nat} {v0 v1 v2 v3 v4 v5 v7 v9 v10 v11 v12 : Option D} {keep : HD → Prop} {Q : List D → HD → Prop} {S : HD} (hk : keep S) (hw : w.length ≤ 1000) (q : Q ((opens M k w s).map entD) S) :
    lcD (gTupD 3 (gConsD (gNameD 10) (gConsD (gNameD 11) (gConsD (gNameD 12) (gNilD))))) (tTst (tBin (rInY false) (tSlot 12) (tSlot 8))) (tTupD (tConsD (tBin rAddD (tSlot 6) (tSlot 10)) (tConsD (tSlot 12) (tNilD)))) [v0, v1, v2, v3, v4, v5, some (wD w), v7, some (layD M k), v9, v10, v11, v12] keep Q ((M.kids s).map mvD) [] S := by
  have e : ((M.kids s).map mvD).filterMap (opF M k w) = (opens M k w s).map entD := by
    rw [List.filterMap_map]
    unfold opens
    rw [List.map_map]
    induction M.kids s with
    | nil => rfl
    | cons p ps ih =>
      rw [List.filterMap_cons, List.filter_cons]
      rw [show (opF M k w ∘ mvD) p = _ from opF_mv M k w p]
      by_cases h : M.opn k p.2 = true
      · rw [if_pos h, if_pos h, List.map_cons, ← ih]
        rfl
      · rw [if_neg h, if_neg h, ← ih]
  refine lcD_pure (opF M k w) hk _ _ (fun d hd Q1 Q0 h => ?_) (by rw [List.nil_append, e]; exact q)
  obtain ⟨⟨c, t⟩, hp, rfl⟩ := List.mem_map.mp hd
  obtain ⟨_, ht, _⟩ := kids_lt ok hp
  rw [opF_mv] at h
  simp only [mvD, gTupD, gConsD, gNilD, gNameD, List.length_cons, List.length_nil, st_z, st_s, tTst, tBin, tSlot, gt_z, gt_s, tTupD, tConsD, tNilD]
  refine ⟨by decide, by decide, ?_⟩
  refine in_lay ok (c := some t) (fun u hu => by cases hu; exact ht) false S _ ?_
  simp only [Bool.false_eq_true, if_false]
  by_cases ho : M.opn k t = true
  · rw [if_pos ho]
    rw [if_pos ho] at h
    unfold wD
    walk_at "rdx"
    refine ⟨?_, by decide, by rw [wstr_app]; exact h⟩
    rw [wstr_len]
    show w.length + 1 ≤ 16777216
    omega
  · rw [if_neg ho]
    rw [if_neg ho] at h
    exact h
end PM
end

section
local macro_rules | `(tactic| walk_at "rdx") => `(tactic| simp only [PD.pad, PD.gt_z, PD.gt_s, PD.st_z, PD.st_s, PD.sNextD, PD.sSeqD, PD.sBreakD, PD.sContD, PD.sDropD, PD.sRetD, PD.sRetND, PD.sIfD, PD.sNeverD, PD.sAsgD, PD.sPar2, PD.sPar3, PD.gNameD, PD.gNilD, PD.gConsD, PD.gTupD, PD.gSubD, PD.tNilD, PD.tConsD, PD.tTupD, PD.tLstV, PD.tLstR, PD.tBin, PD.tTst, PD.tAndD, PD.tOrD, PD.tNotD, PD.tIfD, PD.tAndV, PD.tOrV, PD.tNotV, PD.tUnD, PD.rNeg, PD.tCallD, PD.tSlot, PD.tCD, PD.tChainD, PD.rIsN, PD.rNotN, PD.rIsiD, PD.isi_non, PD.isi_bl, PD.isi_int, PD.isi_str, PD.isi_tup, PD.isi_lst, PD.isi_dic, PD.Ty.name, PD.rCmpI, PD.fLt, PD.fLe, PD.fGt, PD.fGe, PD.rAddD, PD.rSubD, PD.rFdivD, PD.rModD, PD.rPowD, PD.rMulD, PD.rAddR, PD.rMulR, PD.asSeq, PD.asLst, PD.rLenD, PD.rTupleD, PD.rListV, PD.rListR, PD.rIntD, PD.rBoolD, PD.rAbsD, PD.rIxD, PD.oNone, PD.oSome, PD.tSlD, PD.rSlD, PD.tRevTD, PD.rEqD, PD.rNeD, PD.nrm_non, PD.nrm_bl, PD.nrm_int, PD.nrm_str, PD.nrm_tup, PD.nrm_lst, PD.nrm_dic, PD.nrm_ref, PD.iSeqD, PD.iRng1D, PD.iRng2D, PD.sForD, PD.tLcV, PD.tLcR, PD.tYesD, PD.wipeD, PD.tMethL, PD.rAppD, PD.isRefL, PD.tDicV, PD.keyOf, PD.asDic, PD.srcD, PD.iAnyD, PD.iZipD, PD.iEnumD, PD.tDcV, PD.tDicR, PD.gSubX, PD.rSetX, PD.rIxX, PD.rInD, PD.rInX, PD.rInY, PD.rSumD, PD.tRevLD, PD.tRevX, PD.rSixD, PD.rJoinD, PD.tMethS, PD.rLixD, PD.rPopD, PD.rExtD, PD.tMethA, PD.rSetD, PD.rReprD, PD.eqk_int, PD.eqd_int, PD.eqk_str, PD.eqd_str, PD.eqk_lst0, PD.eqd_lst0, PD.eqk_tup0, PD.eqd_tup0, PD.spFn, PD.spDraw, reduceIte, true_and, and_true, or_false, false_or, Bool.not_true, Bool.not_false, Bool.false_eq_true, List.length_cons, List.length_nil, List.set_cons_zero, List.set_cons_succ, PD.HD.set_same, PD.HD.tick_hp, PD.HD.tick_c, PD.HD.tick_dk, PD.HD.set_c, PD.HD.set_dk])
/-! PM9: told, its loop. -/
namespace PM
open PySem PySem.Spec PyProof.Rows PD
theorem take_eq {α : Type} {a b c : List α} {m : Nat} (h : a ++ b = c) (hl : a.length ≤ m) (hd : b = [] ∨ ¬ a.length < m) : a = c.take m := by
  rcases hd with e | e
  · subst e
    rw [List.append_nil] at h
    subst h
    rw [List.take_of_length_le hl]
  · have : m = a.length := by omega
    subst this
    rw [← h, List.take_left']
    rfl
theorem opens_len (M : Mch) (k : Nat) (w : List Nat) (s : Nat) : (opens M k w s).length ≤ M.L := by
  unfold opens Mch.kids
  rw [List.length_map]
  refine Nat.le_trans (List.length_filter_le _ _) (Nat.le_trans (List.length_filterMap_le _ _) ?_)
  simp
theorem told_ok (ds : List D) (S : HD) (Q : QD) (h : spTold ds S Q) : rd_told spLayers spMoves (ends Q) (pad 13 ds) S := by
  obtain ⟨M, n, m, rfl, ok, hn, hm, q⟩ := h
  unfold rd_told
  have hsl : (sizeLine : Nat) = 16777216 := rfl
  have l3 := ok.l3
  refine seq_step fun N1 hN1 => ?_
  walk_at "rdx"
  refine ⟨M, n, rfl, ok, hn, ?_⟩
  refine ⟨by decide, fun pf hpf => hN1 _ _ ?_⟩
  clear hN1 N1
  refine seq_step fun N1 hN1 => ?_
  have e0 := layers_at (M := M) (Nat.le_refl n)
  walk_at "rdx"
  simp only [e0]
  -- the start of the stack
  have start : ∀ pw st, (S.set pf (.lst [])).hp pw = none → (st = [([], 0)] ∧ M.opn n 0 = true ∨ st = [] ∧ M.opn n 0 = false) →
      N1 [some (enc M), some (.int (n : Nat)), some (.int (m : Nat)), some (.lst ((List.range (n + 1)).map (layD M))), some (.ref pf), some (.ref pw), none, none, none, none, none, none, none] ((S.set pf (.lst [])).set pw (.lst (st.map entD))) := by
    intro pw st hpw hst
    have ne : pf ≠ pw := fun e => by rw [← e, HD.set_same] at hpw; cases hpw
    have n1 : S.hp pw = none := by rw [HD.set_ne ne.symm] at hpw; exact hpw
    refine hN1 _ _ ?_
    clear hN1 N1
    refine seq_step fun N1 hN1 => ?_
    refine while_go (fun k σ S' => ∃ found st, Inv M n m pf pw S k σ S' found st) (fun k σ S' N hI kk => ?_) (n := weight M n st) ⟨[], st, ⟨⟨_, _, _, _, rfl⟩, by rw [HD.set_ne ne, HD.set_same]; rfl, HD.set_same, ne, hpf, n1, ((Up.refl S).set hpf).set n1, fun p hp => ?_, fun i p hp => ?_, ?_, Nat.zero_le _, rfl⟩⟩
    · -- one turn
      obtain ⟨found, st, I⟩ := hI
      obtain ⟨v6, v7, v8, v9, e1⟩ := I.sg
      subst e1
      -- out of the loop
      have out : remW M n st = [] ∨ ¬ found.length < m → N1 [some (enc M), some (.int (n : Nat)), some (.int (m : Nat)), some (.lst ((List.range (n + 1)).map (layD M))), some (.ref pf), some (.ref pw), v6, v7, v8, v9, none, none, none] S' := fun hd => by
        refine hN1 _ _ ?_
        have e2 := take_eq I.rm I.lm hd
        have hf := I.hf
        walk_at "rdx"
        simp only [hf]
        rw [e2]
        exact fin.le ⟨I.up.hp, I.up.c, I.up.dk.symm⟩ q
      have hf := I.hf
      have hw := I.hw
      generalize hB : (sSeqD (sAsgD (tMethA rPopD _ _) _) _ : TSD) = B1
      walk_at "rdx"
      simp only [hw, eqk_lst0, eqd_lst0, true_and]
      refine ⟨by decide, ?_⟩
      cases hst : st.getLast? with
      | none =>
        have : st = [] := by simpa using hst
        subst this
        simp only [List.map_nil, List.isEmpty_nil, Bool.not_true, Bool.false_eq_true, if_false]
        exact out (.inl rfl)
      | some p =>
        obtain ⟨w, s⟩ := p
        obtain ⟨ini, rfl⟩ : ∃ ini, st = ini ++ [(w, s)] := by
          obtain ⟨ini, h⟩ := List.getLast?_eq_some_iff.mp hst
          exact ⟨ini, h⟩
        have hne : ((ini ++ [(w, s)]).map entD).isEmpty = false := by simp
        simp only [hne, Bool.not_false, if_true, hf, List.length_map]
        by_cases hlm : (found.length : Int) < (m : Nat)
        · simp only [hlm, decide_true, if_true]
          have hlm' : found.length < m := by omega
          subst hB
          obtain ⟨o1, o2, o3⟩ := I.ok (w, s) (by simp)
          have o1 : w.length ≤ n := o1
          have o2 : s < M.rows.length := o2
          have o3 : M.opn (n - w.length) s = true := o3
          have od : ini.length ≤ 2 * w.length := I.dp ini.length (w, s) (by simp)
          refine seq_step fun N2 hN2 => ?_
          have hlast : ((ini ++ [(w, s)]).map entD).getLast? = some (entD (w, s)) := by simp
          have hdrop : ((ini ++ [(w, s)]).map entD).dropLast = ini.map entD := by simp
          have hia : ∃ xs, asLst S' (.ref pw) = some xs := ⟨(ini ++ [(w, s)]).map entD, by simp only [asLst, hw]⟩
          walk_at "rdx"
          simp only [hw, hlast, hdrop]
          unfold entD
          walk_at "rdx"
          refine ⟨hia, hN2 _ _ ?_⟩
          clear hN2 N2
          have hp1 : (S'.set pw (.lst (ini.map entD))).hp pf = some (.lst (found.map wD)) := by rw [HD.set_ne I.ne]; exact hf
          have hp2 : (S'.set pw (.lst (ini.map entD))).hp pw = some (.lst (ini.map entD)) := HD.set_same
          have u1 : Up 0 S (S'.set pw (.lst (ini.map entD))) := I.up.set I.n1
          show (sIfD _ _ _ : TSD) _ _ (S'.set pw (.lst (ini.map entD)))
          generalize (S'.set pw (.lst (ini.map entD))) = S2 at hp1 hp2 u1
          generalize hT : (sSeqD (sAsgD (tBin rIxX _ _) (gNameD 8)) _ : TSD) = T1
          unfold wD
          walk_at "rdx"
          refine ⟨by rw [wstr_len]; omega, ?_⟩
          simp only [wstr_len]
          have rm := I.rm
          rw [remW_snoc] at rm
          by_cases hl : (w.length : Int) = (n : Nat)
          · have hl' : w.length = n := by omega
            simp only [hl, decide_true, if_true]
            simp only [hp1]
            refine ⟨⟨found.map wD, by simp only [asLst, hp1]⟩, by rw [List.length_map]; omega, kk (weight M n ini) _ _ ?_ ⟨found ++ [w], ini, ?_⟩⟩
            · rw [I.wt, weight_app]
              have : weight M n [(w, s)] = 1 := by
                show (([M.W (n - w.length) s] : List Nat)).sum = 1
                rw [show n - w.length = 0 by omega]
                rfl
              omega
            · have a0 : (M.A (n - w.length) s).map (w ++ ·) = [w] := by
                rw [show n - w.length = 0 by omega] at o3 ⊢
                unfold Mch.opn at o3
                show (M.A 0 s).map _ = _
                unfold Mch.A at o3 ⊢
                cases hf : M.fin s with
                | true => simp
                | false => rw [hf] at o3; simp at o3
              rw [a0] at rm
              refine ⟨⟨_, _, _, _, rfl⟩, ?_, ?_, I.ne, I.n0, I.n1, u1.set I.n0, fun p hp => I.ok p (by simp [hp]), fun i p hp => I.dp i p ?_, ?_, ?_, rfl⟩
              · rw [HD.set_same, List.map_append]
                rfl
              · rw [HD.set_ne I.ne.symm]; exact hp2
              · rw [List.getElem?_append_left ((List.getElem?_eq_some_iff.mp hp).1)]; exact hp
              · rw [← rm]; simp
              · rw [List.length_append, List.length_singleton]; omega
          · have hl' : w.length < n := by omega
            obtain ⟨k', hk'⟩ : ∃ k', w.length + (k' + 1) = n := ⟨n - w.length - 1, by omega⟩
            simp only [hl, decide_false, Bool.false_eq_true, if_false]
            subst hT
            have ek : ((n : Nat) : Int) - ((w.length : Nat) : Int) - 1 = ((k' : Nat) : Int) := by omega
            have e3 := layers_at (M := M) (n := n) (k := k') (by omega)
            refine seq_step fun N2 hN2 => ?_
            walk_at "rdx"
            simp only [wstr_len, ek, e3]
            refine ⟨by omega, hN2 _ _ ?_⟩
            clear hN2 N2
            refine seq_step fun N2 hN2 => ?_
            generalize hg : (gTupD 3 _ : TGD) = g
            walk_at "rdx"
            refine ⟨M, s, rfl, ok, o2, ?_⟩
            subst hg
            have kl : (M.kids s).length ≤ M.L := by
              unfold Mch.kids
              exact Nat.le_trans (List.length_filterMap_le _ _) (by simp)
            walk_at "rdx"
            refine fun hz => ⟨hz, moves_lc ok trivial (by omega) (hN2 _ _ ?_)⟩
            clear hN2 N2
            have ol := opens_len M k' w s
            walk_at "rdx"
            simp only [hp2]
            refine ⟨⟨ini.map entD, by simp only [asLst, hp2]⟩, ?_, kk (weight M n (ini ++ (opens M k' w s).reverse)) _ _ ?_ ⟨found, ini ++ (opens M k' w s).reverse, ?_⟩⟩
            · simp; omega
            · rw [I.wt, weight_app, weight_app]
              have := weight_push M n k' w s hk'
              have e5 : weight M n [(w, s)] = M.W (n - w.length) s := by
                show (([M.W (n - w.length) s] : List Nat)).sum = _
                simp
              omega
            · refine ⟨⟨_, _, _, _, rfl⟩, ?_, ?_, I.ne, I.n0, I.n1, u1.set I.n1, fun p hp => ?_, fun i p hp => ?_, ?_, I.lm, rfl⟩
              · rw [HD.set_ne I.ne]; exact hp1
              · rw [HD.set_same, List.map_append, List.map_reverse]
              · rcases List.mem_append.mp hp with h | h
                · exact I.ok p (by simp [h])
                · obtain ⟨⟨c, t⟩, h1, rfl⟩ := List.mem_map.mp (List.mem_reverse.mp h)
                  obtain ⟨h2, h3⟩ := List.mem_filter.mp h1
                  obtain ⟨_, ht, _⟩ := kids_lt ok h2
                  refine ⟨by rw [List.length_append, List.length_singleton]; omega, ht, ?_⟩
                  rw [show n - (w ++ [c]).length = k' by rw [List.length_append, List.length_singleton]; omega]
                  exact h3
              · by_cases hi : i < ini.length
                · rw [List.getElem?_append_left hi] at hp
                  exact I.dp i p (by rw [List.getElem?_append_left hi]; exact hp)
                · rw [List.getElem?_append_right (by omega)] at hp
                  have hm := List.mem_of_getElem? hp
                  have hlt := (List.getElem?_eq_some_iff.mp hp).1
                  rw [List.length_reverse] at hlt
                  obtain ⟨⟨c, t⟩, _, rfl⟩ := List.mem_map.mp (List.mem_reverse.mp hm)
                  simp only [List.length_append, List.length_singleton]
                  have od' : ini.length ≤ 2 * w.length := od
                  omega
              · rw [rem_push M n k' w s ini hk', remW_snoc]
                exact rm
        · simp only [hlm, decide_false, Bool.false_eq_true, if_false]
          exact out (.inr (by omega))
    · rcases hst with ⟨rfl, h⟩ | ⟨rfl, h⟩
      · rw [List.mem_singleton.mp hp]
        exact ⟨Nat.zero_le _, ok.n1, h⟩
      · cases hp
    · rcases hst with ⟨rfl, h⟩ | ⟨rfl, h⟩
      · have := (List.getElem?_eq_some_iff.mp hp).1
        simp at this
        omega
      · simp at hp
    · rcases hst with ⟨rfl, h⟩ | ⟨rfl, h⟩
      · show [] ++ remW M n ([] ++ [([], 0)]) = _
        rw [remW_snoc]
        simp [remW]
      · unfold Mch.opn at h
        have : M.A n 0 = [] := by simpa using h
        rw [this]
        rfl
  simp only [show layD M n = D.dic (keysD (M.opn n) M.rows.length) from rfl]
  have hk := keysD_get (M.opn n) M.rows.length 0
  have h0 : 0 < M.rows.length := ok.n1
  simp only [Int.natCast_zero, h0, decide_true, Bool.true_and] at hk
  simp only [hk]
  cases ho : M.opn n 0 with
  | true =>
    simp only [if_true]
    refine ⟨by decide, by decide, fun pw hpw => ?_⟩
    exact start pw [([], 0)] hpw (.inl ⟨rfl, ho⟩)
  | false =>
    simp only [Bool.false_eq_true, if_false]
    exact ⟨by decide, fun pw hpw => start pw [] hpw (.inr ⟨rfl, ho⟩)⟩
end PM
end

section
local macro_rules | `(tactic| walk_at "rdx") => `(tactic| simp only [PD.pad, PD.gt_z, PD.gt_s, PD.st_z, PD.st_s, PD.sNextD, PD.sSeqD, PD.sBreakD, PD.sContD, PD.sDropD, PD.sRetD, PD.sRetND, PD.sIfD, PD.sNeverD, PD.sAsgD, PD.sPar2, PD.sPar3, PD.gNameD, PD.gNilD, PD.gConsD, PD.gTupD, PD.gSubD, PD.tNilD, PD.tConsD, PD.tTupD, PD.tLstV, PD.tLstR, PD.tBin, PD.tTst, PD.tAndD, PD.tOrD, PD.tNotD, PD.tIfD, PD.tAndV, PD.tOrV, PD.tNotV, PD.tUnD, PD.rNeg, PD.tCallD, PD.tSlot, PD.tCD, PD.tChainD, PD.rIsN, PD.rNotN, PD.rIsiD, PD.isi_non, PD.isi_bl, PD.isi_int, PD.isi_str, PD.isi_tup, PD.isi_lst, PD.isi_dic, PD.Ty.name, PD.rCmpI, PD.fLt, PD.fLe, PD.fGt, PD.fGe, PD.rAddD, PD.rSubD, PD.rFdivD, PD.rModD, PD.rPowD, PD.rMulD, PD.rAddR, PD.rMulR, PD.asSeq, PD.asLst, PD.rLenD, PD.rTupleD, PD.rListV, PD.rListR, PD.rIntD, PD.rBoolD, PD.rAbsD, PD.rIxD, PD.oNone, PD.oSome, PD.tSlD, PD.rSlD, PD.tRevTD, PD.rEqD, PD.rNeD, PD.nrm_non, PD.nrm_bl, PD.nrm_int, PD.nrm_str, PD.nrm_tup, PD.nrm_lst, PD.nrm_dic, PD.nrm_ref, PD.iSeqD, PD.iRng1D, PD.iRng2D, PD.sForD, PD.tLcV, PD.tLcR, PD.tYesD, PD.wipeD, PD.tMethL, PD.rAppD, PD.isRefL, PD.tDicV, PD.keyOf, PD.asDic, PD.srcD, PD.iAnyD, PD.iZipD, PD.iEnumD, PD.tDcV, PD.tDicR, PD.gSubX, PD.rSetX, PD.rIxX, PD.rInD, PD.rInX, PD.rInY, PD.rSumD, PD.tRevLD, PD.tRevX, PD.rSixD, PD.rJoinD, PD.tMethS, PD.rLixD, PD.rPopD, PD.rExtD, PD.tMethA, PD.rSetD, PD.rReprD, PD.eqk_int, PD.eqd_int, PD.eqk_str, PD.eqd_str, PD.eqk_lst0, PD.eqd_lst0, PD.eqk_tup0, PD.eqd_tup0, PD.spFn, PD.spDraw, reduceIte, true_and, and_true, or_false, false_or, Bool.not_true, Bool.not_false, Bool.false_eq_true, List.length_cons, List.length_nil, List.set_cons_zero, List.set_cons_succ, PD.HD.set_same, PD.HD.tick_hp, PD.HD.tick_c, PD.HD.tick_dk, PD.HD.set_c, PD.HD.set_dk])
/-! PM10: the law's first words. -/
namespace PM
open PySem PySem.Spec PyProof.Rows PD
theorem flat_take {α β : Type} (f : α → List β) : ∀ (l : List α) (m : Nat), (∀ x ∈ l, f x ≠ []) → ((l.take m).flatMap f).take m = (l.flatMap f).take m
  | [], m, _ => by simp
  | x :: l, 0, _ => by simp
  | x :: l, m + 1, h => by
    rw [List.take_succ_cons, List.flatMap_cons, List.flatMap_cons, List.take_append, List.take_append]
    congr 1
    have hx : 0 < (f x).length := List.length_pos_iff.mpr (h x (by simp))
    have ih := flat_take f l m (fun y hy => h y (by simp [hy]))
    have : m + 1 - (f x).length ≤ m := by omega
    generalize m + 1 - (f x).length = j at this
    have e : ∀ zs : List β, zs.take j = (zs.take m).take j := fun zs => by rw [List.take_take, Nat.min_eq_left this]
    rw [e, e (l.flatMap f), ih]
def opensP (M : Mch) (k : Nat) (w : List Nat) (s i : Nat) : List (List Nat × Nat) := (((List.range i).filterMap fun c => (M.nx s c).map fun t => (c, t)).filter fun p => M.opn k p.2).map fun p => (w ++ [p.1], p.2)
theorem opensP_succ (M : Mch) (k : Nat) (w : List Nat) (s i : Nat) : opensP M k w s (i + 1) = opensP M k w s i ++ (match M.nx s i with | some t => if M.opn k t = true then [(w ++ [i], t)] else [] | none => []) := by
  unfold opensP
  rw [List.range_succ, List.filterMap_append, List.filter_append, List.map_append]
  congr 1
  cases h : M.nx s i with
  | none => simp [h]
  | some t =>
    by_cases ho : M.opn k t = true
    · simp [h, ho]
    · simp [h, ho]
def remF (M : Mch) (k : Nat) (fs : List (List Nat × Nat)) : List (List Nat) := fs.flatMap fun p => (M.A k p.2).map (p.1 ++ ·)
theorem remF_opens (M : Mch) (k : Nat) (w : List Nat) (s : Nat) : remF M k (opens M k w s) = (M.A (k + 1) s).map (w ++ ·) := by
  unfold remF opens
  rw [A_open, List.flatMap_map, List.map_flatMap]
  congr 1
  funext p
  simp
theorem remF_step (M : Mch) (k : Nat) (fs : List (List Nat × Nat)) : remF M k (fs.flatMap fun p => opens M k p.1 p.2) = remF M (k + 1) fs := by
  induction fs with
  | nil => rfl
  | cons p ps ih =>
    have e : remF M (k + 1) (p :: ps) = (M.A (k + 1) p.2).map (p.1 ++ ·) ++ remF M (k + 1) ps := by
      unfold remF
      rw [List.flatMap_cons]
    have e2 : ∀ a b, remF M k (a ++ b) = remF M k a ++ remF M k b := fun a b => by
      unfold remF
      rw [List.flatMap_append]
    rw [e, List.flatMap_cons, e2, remF_opens, ih]
theorem opens_ok {M : Mch} (ok : M.Ok) {k s : Nat} {w : List Nat} {p : List Nat × Nat} (h : p ∈ opens M k w s) : p.1.length = w.length + 1 ∧ p.2 < M.rows.length ∧ M.opn k p.2 = true := by
  unfold opens at h
  obtain ⟨⟨c, t⟩, h1, rfl⟩ := List.mem_map.mp h
  obtain ⟨h2, h3⟩ := List.mem_filter.mp h1
  obtain ⟨_, ht, _⟩ := kids_lt ok h2
  exact ⟨by simp, ht, h3⟩
def finF (M : Mch) : D → Option D
  | .tup [.str z, .int t] => if M.fin t.toNat = true then some (.str z) else none
  | _ => none
theorem finF_ent (M : Mch) (p : List Nat × Nat) : finF M (entD p) = if M.fin p.2 = true then some (wD p.1) else none := by
  show (if M.fin ((p.2 : Nat) : Int).toNat = true then some (D.str (wstr p.1)) else none) = _
  rw [Int.toNat_natCast]
  rfl
theorem finF_all (M : Mch) (fs : List (List Nat × Nat)) : (fs.map entD).filterMap (finF M) = (remF M 0 fs).map wD := by
  induction fs with
  | nil => rfl
  | cons p ps ih =>
    have e : remF M 0 (p :: ps) = (M.A 0 p.2).map (p.1 ++ ·) ++ remF M 0 ps := by
      unfold remF
      rw [List.flatMap_cons]
    rw [List.map_cons, List.filterMap_cons, finF_ent, ih, e]
    by_cases h : M.fin p.2 = true
    · simp [h, Mch.A]
    · simp [h, Mch.A]
theorem cnt_pos {M : Mch} {k t : Nat} : decide ((0 : Int) < (M.cnt k t : Nat)) = M.opn k t := by
  rw [opn_cnt]
  simp
theorem first_ok (ds : List D) (S : HD) (Q : QD) (h : spTold ds S Q) : rd__law_first spLCounts spNext (ends Q) (pad 11 ds) S := by
  obtain ⟨M, n, m, rfl, ok, hn, hm, q⟩ := h
  unfold rd__law_first
  have hsl : (sizeLine : Nat) = 16777216 := rfl
  have l3 := ok.l3
  refine seq_step fun N1 hN1 => ?_
  walk_at "rdx"
  refine ⟨M, n, rfl, ok, hn, ?_⟩
  refine ⟨by decide, by decide, hN1 _ _ ?_⟩
  clear hN1 N1
  generalize hB : (sSeqD (sAsgD (tLstR tNilD) (gNameD 6)) _ : TSD) = B1
  refine seq_step fun N1 hN1 => ?_
  walk_at "rdx"
  refine ⟨by omega, ?_⟩
  refine loopD_go (fun i σ S' => ∃ (fs : List (List Nat × Nat)) (v5 v6 v7 v8 v9 v10 : Option D), σ = [some (enc M), some (.int (n : Nat)), some (.int (m : Nat)), some (.lst ((List.range (n + 1)).map fun k => .lst (rowL M k))), some (.lst (fs.map entD)), v5, v6, v7, v8, v9, v10] ∧ Up 0 S S' ∧ (∀ p ∈ fs, p.1.length = i ∧ p.2 < M.rows.length) ∧ (remF M (n - i) fs).take m = (M.A n 0).take m ∧ fs.length ≤ 1000) ?_ ?_ ?_
  · exact ⟨[([], 0)], _, _, _, _, _, _, rfl, .refl S, fun p hp => by rw [List.mem_singleton.mp hp]; exact ⟨rfl, ok.n1⟩, by simp [remF], by simp⟩
  · intro i d σ S' N hi ⟨fs, v5, v6, v7, v8, v9, v10, e1, up, h1, h2, h3⟩ k
    obtain ⟨hi1, rfl⟩ := rngD_get hi
    have hi2 : i < n := by omega
    obtain ⟨k', hk'⟩ : ∃ k', n - i = k' + 1 := ⟨n - i - 1, by omega⟩
    subst e1
    refine ⟨trivial, ?_⟩
    walk_at "rdx"
    subst hB
    refine seq_step fun N2 hN2 => ?_
    walk_at "rdx"
    refine ⟨by decide, fun p hp => hN2 _ _ ?_⟩
    clear hN2 N2
    refine seq_step fun N2 hN2 => ?_
    generalize hC : (sForD (iAnyD (tSlD _ _ _)) _ _ : TSD) = B2
    walk_at "rdx"
    refine fun _ => loopD_go (fun j σ S2 => ∃ (v7 v8 v9 v10 : Option D), σ = [some (enc M), some (.int (n : Nat)), some (.int (m : Nat)), some (.lst ((List.range (n + 1)).map fun k => .lst (rowL M k))), some (.lst (fs.map entD)), some (.int (0 + (i : Int))), some (.ref p), v7, v8, v9, v10] ∧ S2 = S'.set p (.lst (((fs.take j).flatMap fun p => opens M k' p.1 p.2).map entD))) ⟨_, _, _, _, rfl, rfl⟩ ?_ ?_
    · intro j d σ S2 N hj ⟨v7, v8, v9, v10, e4, e5⟩ kk
      rw [List.getElem?_map] at hj
      obtain ⟨⟨w, s⟩, hw, rfl⟩ := Option.map_eq_some_iff.mp hj
      have hwm := List.mem_of_getElem? hw
      obtain ⟨w1, w2⟩ := h1 _ hwm
      have w1 : w.length = i := w1
      have w2 : s < M.rows.length := w2
      subst e4 e5
      refine ⟨trivial, ?_⟩
      generalize hbase : ((fs.take j).flatMap fun p => opens M k' p.1 p.2) = base
      have bl : base.length ≤ 3000 := by
        have l1 : ∀ xs : List (List Nat × Nat), (xs.flatMap fun p => opens M k' p.1 p.2).length ≤ xs.length * 3 := by
          intro xs
          induction xs with
          | nil => simp
          | cons x xs ih =>
            rw [List.flatMap_cons, List.length_append, List.length_cons]
            have := opens_len M k' x.1 x.2
            omega
        have l2 := l1 (fs.take j)
        rw [hbase, List.length_take] at l2
        omega
      unfold entD
      walk_at "rdx"
      subst hC
      generalize hD : (sSeqD (sAsgD (tCallD spNext _) (gNameD 10)) _ : TSD) = B3
      walk_at "rdx"
      simp only [enc, at3_0]
      rw [cut_abc l3]
      refine ⟨by rw [abc_len]; decide, ?_⟩
      rw [signsD_w]
      refine loopD_go (fun c σ S3 => ∃ (v9 v10 : Option D), σ = [some (enc M), some (.int (n : Nat)), some (.int (m : Nat)), some (.lst ((List.range (n + 1)).map fun k => .lst (rowL M k))), some (.lst (fs.map entD)), some (.int (0 + (i : Int))), some (.ref p), some (wD w), some (.int (s : Nat)), v9, v10] ∧ S3 = S'.set p (.lst ((base ++ opensP M k' w s c).map entD))) ⟨_, _, rfl, by simp [opensP]; rfl⟩ ?_ ?_
      · intro c d σ S3 N3 hc ⟨v9, v10, e6, e7⟩ k3
        rw [List.getElem?_map] at hc
        obtain ⟨c', hc', rfl⟩ := Option.map_eq_some_iff.mp hc
        have hcL : c < M.L := by
          have := (List.getElem?_eq_some_iff.mp hc').1
          simpa using this
        rw [List.getElem?_range hcL] at hc'
        cases hc'
        subst e6 e7
        refine ⟨trivial, ?_⟩
        subst hD
        refine seq_step fun N4 hN4 => ?_
        walk_at "rdx"
        refine ⟨M, some s, c, rfl, ok, hcL, fun t ht => by cases ht; exact w2, hN4 _ _ ?_⟩
        clear hN4 N4
        have enx : M.nxo (some s) c = M.nx s c := rfl
        rw [enx]
        have sc := opensP_succ M k' w s c
        cases hx : M.nx s c with
        | none =>
          rw [hx] at sc
          simp only [encC]
          walk_at "rdx"
          refine k3 _ _ ⟨_, _, rfl, ?_⟩
          rw [sc]
          simp
        | some t =>
          rw [hx] at sc
          have ht := Mch.nx_lt ok hx
          have ek : ((n : Nat) : Int) - (0 + (i : Int)) - 1 = ((k' : Nat) : Int) := by omega
          have e3 : L2.atI ((List.range (n + 1)).map fun k => D.lst (rowL M k)) (k' : Int) = some (D.lst (rowL M k')) := atI_map (by rw [List.getElem?_range (by omega)])
          simp only [encC]
          unfold wD
          walk_at "rdx"
          simp only [ek, e3, rowL_at ht, cntD, isN]
          walk_at "rdx"
          have ol : (opensP M k' w s c).length ≤ c := by
            unfold opensP
            rw [List.length_map]
            refine Nat.le_trans (List.length_filter_le _ _) (Nat.le_trans (List.length_filterMap_le _ _) ?_)
            simp
          split
          · rename_i hif
            have ho : M.opn k' t = true := by rw [← cnt_pos]; exact hif
            simp only [ho, if_true] at sc
            refine ⟨⟨_, rfl⟩, by rw [wstr_len]; show w.length + 1 ≤ _; omega, by decide, by rw [List.length_map, List.length_append]; omega, k3 _ _ ⟨_, _, rfl, ?_⟩⟩
            rw [HD.set_set, sc, wstr_app]
            simp only [List.map_append, List.append_assoc]
            rfl
          · rename_i hif
            have ho : M.opn k' t = false := by
              cases h : M.opn k' t with
              | false => rfl
              | true => exact (hif (by rw [← h, ← cnt_pos])).elim
            simp only [ho, Bool.false_eq_true, if_false] at sc
            refine k3 _ _ ⟨_, _, rfl, ?_⟩
            rw [sc, List.append_nil]
      · intro σ S3 ⟨v9, v10, e6, e7⟩
        subst e6 e7
        rw [List.length_map, List.length_range]
        refine ⟨trivial, kk _ _ ⟨_, _, _, _, rfl, ?_⟩⟩
        rw [List.take_add_one, hw, List.flatMap_append, hbase]
        show _ = S'.set p (.lst ((base ++ ([(w, s)].flatMap _)).map entD))
        simp [opensP, opens, Mch.kids]
    · intro σ S2 ⟨v7, v8, v9, v10, e4, e5⟩
      subst e4 e5
      refine ⟨trivial, hN2 _ _ ?_⟩
      walk_at "rdx"
      rw [List.length_map, List.take_of_length_le (Nat.le_refl _), cut_pre, ← List.map_take]
      have hs := remF_step M k' fs
      refine k _ _ ⟨_, _, _, _, _, _, _, rfl, up.new hp, fun x hx => ?_, ?_, ?_⟩
      · obtain ⟨y, hy, hxy⟩ := List.mem_flatMap.mp (List.mem_of_mem_take hx)
        obtain ⟨o1, o2, _⟩ := opens_ok ok hxy
        exact ⟨by rw [o1, (h1 y hy).1], o2⟩
      · rw [show n - (i + 1) = k' by omega, ← h2, hk', ← hs]
        unfold remF
        refine flat_take _ _ _ fun x hx => ?_
        obtain ⟨y, hy, hxy⟩ := List.mem_flatMap.mp hx
        obtain ⟨_, _, o3⟩ := opens_ok ok hxy
        unfold Mch.opn at o3
        simpa using o3
      · rw [List.length_take]
        omega
  · intro σ S' ⟨fs, v5, v6, v7, v8, v9, v10, e1, up, h1, h2, h3⟩
    subst e1
    refine ⟨trivial, hN1 _ _ ?_⟩
    walk_at "rdx"
    rw [rngD_len] at h1 h2
    refine fun hz => ⟨hz, lcD_pure (finF M) trivial _ _ (fun d hd Q1 Q0 h => ?_) ?_⟩
    · obtain ⟨⟨w, s⟩, hm, rfl⟩ := List.mem_map.mp hd
      have hs : s < M.rows.length := (h1 _ hm).2
      rw [finF_ent] at h
      unfold entD
      simp only [enc]
      walk_at "rdx"
      simp only [at3_2, atI_map (f := D.bl) (fin_at ok hs)]
      by_cases hf : M.fin s = true
      · rw [if_pos hf] at h
        simp only [hf, if_true]
        exact h
      · rw [if_neg hf] at h
        simp only [hf, if_false]
        exact h
    · rw [List.nil_append, finF_all, cut_pre, ← List.map_take]
      rw [show n - (n : Int).toNat = 0 by omega] at h2
      rw [h2]
      exact up.fin q
end PM
end

section
local macro_rules | `(tactic| walk_at "rdx") => `(tactic| simp only [PD.pad, PD.gt_z, PD.gt_s, PD.st_z, PD.st_s, PD.sNextD, PD.sSeqD, PD.sBreakD, PD.sContD, PD.sDropD, PD.sRetD, PD.sRetND, PD.sIfD, PD.sNeverD, PD.sAsgD, PD.sPar2, PD.sPar3, PD.gNameD, PD.gNilD, PD.gConsD, PD.gTupD, PD.gSubD, PD.tNilD, PD.tConsD, PD.tTupD, PD.tLstV, PD.tLstR, PD.tBin, PD.tTst, PD.tAndD, PD.tOrD, PD.tNotD, PD.tIfD, PD.tAndV, PD.tOrV, PD.tNotV, PD.tUnD, PD.rNeg, PD.tCallD, PD.tSlot, PD.tCD, PD.tChainD, PD.rIsN, PD.rNotN, PD.rIsiD, PD.isi_non, PD.isi_bl, PD.isi_int, PD.isi_str, PD.isi_tup, PD.isi_lst, PD.isi_dic, PD.Ty.name, PD.rCmpI, PD.fLt, PD.fLe, PD.fGt, PD.fGe, PD.rAddD, PD.rSubD, PD.rFdivD, PD.rModD, PD.rPowD, PD.rMulD, PD.rAddR, PD.rMulR, PD.asSeq, PD.asLst, PD.rLenD, PD.rTupleD, PD.rListV, PD.rListR, PD.rIntD, PD.rBoolD, PD.rAbsD, PD.rIxD, PD.oNone, PD.oSome, PD.tSlD, PD.rSlD, PD.tRevTD, PD.rEqD, PD.rNeD, PD.nrm_non, PD.nrm_bl, PD.nrm_int, PD.nrm_str, PD.nrm_tup, PD.nrm_lst, PD.nrm_dic, PD.nrm_ref, PD.iSeqD, PD.iRng1D, PD.iRng2D, PD.sForD, PD.tLcV, PD.tLcR, PD.tYesD, PD.wipeD, PD.tMethL, PD.rAppD, PD.isRefL, PD.tDicV, PD.keyOf, PD.asDic, PD.srcD, PD.iAnyD, PD.iZipD, PD.iEnumD, PD.tDcV, PD.tDicR, PD.gSubX, PD.rSetX, PD.rIxX, PD.rInD, PD.rInX, PD.rInY, PD.rSumD, PD.tRevLD, PD.tRevX, PD.rSixD, PD.rJoinD, PD.tMethS, PD.rLixD, PD.rPopD, PD.rExtD, PD.tMethA, PD.rSetD, PD.rReprD, PD.eqk_int, PD.eqd_int, PD.eqk_str, PD.eqd_str, PD.eqk_lst0, PD.eqd_lst0, PD.eqk_tup0, PD.eqd_tup0, PD.spFn, PD.spDraw, reduceIte, true_and, and_true, or_false, false_or, Bool.not_true, Bool.not_false, Bool.false_eq_true, List.length_cons, List.length_nil, List.set_cons_zero, List.set_cons_succ, PD.HD.set_same, PD.HD.tick_hp, PD.HD.tick_c, PD.HD.tick_dk, PD.HD.set_c, PD.HD.set_dk])
/-! PM11: the law's machines. -/
namespace PM
open PySem PySem.Spec PyProof.Rows PD
/-- a cell, a row of a machine with n states -/
def CellOk (n : Int) (c : D) : Prop := c = .non ∨ ∃ j, c = .int j ∧ 0 ≤ j ∧ j < n
def RowOk (L n : Int) (r : D) : Prop := ∃ cells, r = .tup cells ∧ (cells.length : Int) = L ∧ ∀ c ∈ cells, CellOk n c
def MachOk (L m : Int) (M : D) : Prop := ∃ rows ends, M = .tup [.int L, .tup rows, .tup ends] ∧ 1 ≤ rows.length ∧ (rows.length : Int) ≤ m ∧ ends.length = rows.length ∧ (∀ r ∈ rows, RowOk L rows.length r) ∧ ∀ e ∈ ends, ∃ b, e = .bl b
def spMach : SpD := fun ds S Q => ∃ L m : Int, ds = [.deck, .int L, .int m] ∧ 1 ≤ L ∧ L ≤ 3 ∧ 1 ≤ m ∧ m ≤ 8 ∧ S.c + 1000 ≤ 1000000000000 ∧ ∀ M, MachOk L m M → Q M (S.tick 1000)
theorem lc_len {f : D → Option D} {xs : List D} (h : ∀ d ∈ xs, (f d).isSome = true) : (xs.filterMap f).length = xs.length := by
  induction xs with
  | nil => rfl
  | cons x xs ih =>
    have h1 := h x List.mem_cons_self
    cases e : f x with
    | none => rw [e] at h1; cases h1
    | some y => rw [List.filterMap_cons, e]; simp [ih fun d hd => h d (List.mem_cons_of_mem _ hd)]
/-- cells by calls that draw once -/
theorem cells_lc {g : TGD} {tt : TTD} {te : TED} {σ : SD} {xs : List D} {Q : List D → HD → Prop} {n : Int} {S0 S : HD} {k : Nat} (hu : Up k S0 S) (hc : S0.c + 500 ≤ 1000000000000) (hk : k + xs.length ≤ 500)
    (step : ∀ (d : D) (acc : List D) (S' : HD) (N : List D → HD → Prop), d ∈ xs → S'.c < 1000000000000 → S'.hp = S.hp → (∀ y, CellOk n y → N (acc ++ [y]) (S'.tick 1)) → g d σ S' fun σ2 S2 => tt σ2 S2 fun b S3 => if b = true then te σ2 S3 (fun y S4 => N (acc ++ [y]) S4) else N acc S3)
    (q : ∀ acc S', acc.length = xs.length → (∀ c ∈ acc, CellOk n c) → Up (k + xs.length) S0 S' → S'.hp = S.hp → Q acc S') : lcD g tt te σ (fun _ => True) Q xs [] S := by
  refine lcD_go (fun i acc S' => acc.length = i ∧ (∀ c ∈ acc, CellOk n c) ∧ Up (k + i) S0 S' ∧ S'.hp = S.hp) ⟨rfl, fun c h => (by cases h), hu, rfl⟩ (fun i d acc S' N hi ⟨e1, e2, e3, e4⟩ kk => ⟨trivial, step d acc S' N (List.mem_of_getElem? hi) ?_ e4 fun y hy => kk _ _ ⟨by rw [List.length_append, e1]; rfl, fun c hc => ?_, e3.tick (k := 1), e4⟩⟩) fun acc S' ⟨e1, e2, e3, e4⟩ => ⟨trivial, q acc S' e1 e2 e3 e4⟩
  · have h1 := (List.getElem?_eq_some_iff.mp hi).1
    have h2 := e3.c
    omega
  · rcases List.mem_append.mp hc with h | h
    · exact e2 c h
    · rw [List.mem_singleton.mp h]; exact hy
theorem machD_ok (ds : List D) (S : HD) (Q : QD) (h : spMach ds S Q) : rd__law_machine spDraw spOne (ends Q) (pad 12 ds) S := by
  obtain ⟨L, m, rfl, l1, l2, m1, m2, hc, q⟩ := h
  unfold rd__law_machine
  generalize hT : sForD _ _ _ = T1
  generalize hU : (sSeqD _ (sRetD _) : TSD) = U1
  walk_at "rdx"
  refine ⟨⟨m1, by omega, by omega⟩, fun r1 r10 r11 => ⟨⟨by decide, by decide, by omega⟩, fun way w0 w1 => ⟨by decide, fun p hp => ⟨by decide, ?_⟩⟩⟩⟩
  have hn1 : 1 ≤ 1 + r1 := by omega
  have hn2 : 1 + r1 ≤ m := by omega
  generalize 1 + r1 = n at hn1 hn2
  have hu0 : Up 2 S (((S.tick 1).tick 1).set p (.lst [])) := ((((Up.refl S).tick).tick).new hp).mono (by decide)
  have hp0 : S.hp p = none := hp
  have hp1 : (((S.tick 1).tick 1).set p (.lst [])).hp p = some (.lst []) := HD.set_same
  generalize (((S.tick 1).tick 1).set p (.lst [])) = S1 at hu0 hp1
  subst hT
  generalize hB : sIfD _ _ _ = B1
  walk_at "rdx"
  refine ⟨⟨by omega, by omega⟩, loopD_go (fun i σ S' => ∃ rows v6 v7 v8, σ = [some .deck, some (.int L), some (.int m), some (.int n), some (.int way), some (.ref p), v6, v7, v8, none, none, none] ∧ rows.length = i ∧ (∀ r ∈ rows, RowOk L n r) ∧ S'.hp p = some (.lst rows) ∧ Up (2 + 6 * i) S S') ⟨[], none, none, none, rfl, rfl, fun r h => (by cases h), hp1, hu0⟩ (fun i d σ S' N hi ⟨rows, v6, v7, v8, e1, e2, e3, e4, e5⟩ k => ⟨trivial, ?_⟩) fun σ S' ⟨rows, v6, v7, v8, e1, e2, e3, e4, e5⟩ => ⟨trivial, ?_⟩⟩
  · obtain ⟨hi1, rfl⟩ := rngD_get hi
    subst e1 hB
    have hi2 : i < 8 := by omega
    have hcS : S'.c + 500 ≤ 1000000000000 := by have := e5.c; omega
    have done : ∀ cells S2 v7 v8, (cells.length : Int) = L → (∀ c ∈ cells, CellOk n c) → Up 6 S' S2 → S2.hp = S'.hp → rows.length < 16000000 ∧ N [some .deck, some (.int L), some (.int m), some (.int n), some (.int way), some (.ref p), some (.int (0 + (i : Int))), v7, v8, none, none, none] (S2.set p (.lst (rows ++ [.tup cells]))) := fun cells S2 v7 v8 h1 h2 h3 h4 => ⟨by omega, k _ _ ⟨rows ++ [.tup cells], _, v7, v8, rfl, by simp [e2], fun r hr => (by
      rcases List.mem_append.mp hr with h | h
      · exact e3 r h
      · rw [List.mem_singleton.mp h]; exact ⟨cells, rfl, h1, h2⟩), HD.set_same, ((e5.trans h3).mono (by omega)).set hp0⟩⟩
    generalize hg : gNameD 10 = g10
    generalize hg' : gNameD 11 = g11
    walk_at "rdx"
    subst hg hg'
    have hrl : (rngD 0 L.toNat).length = L.toNat := rngD_len _ _
    have hLn : ((L.toNat : Nat) : Int) = L := Int.toNat_of_nonneg (by omega)
    have hsz : (rngD 0 L.toNat).length ≤ sizeLine := by
      have : (sizeLine : Nat) = 16777216 := rfl
      omega
    have i0 : (0 : Int) + (i : Int) = i := Int.zero_add _
    by_cases hw : way = 0
    · simp only [hw, decide_true, if_true]
      subst hw
      refine ⟨⟨_, e4⟩, ⟨by omega, by omega⟩, hsz, lcD_pure (fun _ => some (.int ((0 + (i : Int) + 1) % n))) trivial _ _ (fun d hd Q1 Q0 h => ?_) ?_⟩
      · walk_at "rdx"
        exact ⟨by omega, h⟩
      · simp only [e4]
        refine done _ S' _ _ ?_ ?_ ((Up.refl _).mono (by decide)) rfl
        · rw [List.nil_append, lc_len (fun _ _ => rfl), hrl, hLn]
        · intro c hc
          obtain ⟨_, _, e⟩ := List.mem_filterMap.mp hc
          cases e
          exact .inr ⟨_, rfl, Int.emod_nonneg _ (by omega), Int.emod_lt_of_pos _ (by omega)⟩
    · simp only [hw, decide_false, Bool.false_eq_true, if_false]
      by_cases hw1 : way = 1
      · simp only [hw1, decide_true, if_true]
        subst hw1
        have one : ∀ (f0 : D), CellOk n f0 → (∃ xs, S'.hp p = some (OD.lst xs)) ∧ (-1000000000 ≤ L ∧ L ≤ 10000000) ∧ (rngD 0 L.toNat).length ≤ sizeLine ∧
            lcD (gNameD 10) tYesD (tCallD spOne (tConsD (tSlot 0) (tConsD (tSlot 7) tNilD))) [some .deck, some (.int L), some (.int m), some (.int n), some (.int 1), some (.ref p), some (.int (0 + (i : Int))), some (.lst [f0, .int (0 + (i : Int)), .non]), v8, none, none, none] (fun _ => True)
              (fun acc S2 => match S2.hp p with
                | some (OD.lst xs) => xs.length < 16000000 ∧ N [some .deck, some (.int L), some (.int m), some (.int n), some (.int 1), some (.ref p), some (.int (0 + (i : Int))), some (.lst [f0, .int (0 + (i : Int)), .non]), v8, none, none, none] (S2.set p (.lst (xs ++ [.tup acc])))
                | _ => False) (rngD 0 L.toNat) [] S' := fun f0 hf => by
          refine ⟨⟨_, e4⟩, ⟨by omega, by omega⟩, hsz, cells_lc (n := n) (S0 := S') (Up.refl S') hcS (by omega) (fun d acc S2 N2 hd hc2 hs2 k2 => ?_) fun acc S2 a1 a2 a3 a4 => ?_⟩
          · walk_at "rdx"
            refine ⟨_, _, rfl, rfl, by simp, by simp, hc2, fun y hy => k2 y ?_⟩
            rcases List.mem_cons.mp hy with e | hy
            · rw [e]; exact hf
            rcases List.mem_cons.mp hy with e | hy
            · rw [e]; exact .inr ⟨_, rfl, by omega, by omega⟩
            · rw [List.mem_singleton.mp hy]; exact .inl rfl
          · simp only [a4, e4]
            exact done acc S2 _ _ (by rw [a1, hrl, hLn]) a2 (a3.mono (by omega)) a4
        by_cases hs : 0 + (i : Int) + 1 < n
        · simp only [hs, decide_true, if_true]
          exact ⟨by decide, one _ (.inr ⟨_, rfl, by omega, by omega⟩)⟩
        · simp only [hs, decide_false, Bool.false_eq_true, if_false]
          exact ⟨by decide, one _ (.inl rfl)⟩
      · simp only [hw1, decide_false, Bool.false_eq_true, if_false]
        refine ⟨⟨by omega, by omega⟩, hsz, cells_lc (n := n) (S0 := S') (Up.refl S') hcS (by omega) (fun d acc S2 N2 hd hc2 hs2 k2 => ?_) fun acc S2 a1 a2 a3 a4 => ?_⟩
        · walk_at "rdx"
          exact ⟨⟨by omega, by omega, hc2⟩, fun r r0 r1 => k2 _ (.inr ⟨_, rfl, r0, r1⟩)⟩
        · refine ⟨⟨_, by rw [a4]; exact e4⟩, fun hz => ⟨hz, cells_lc (n := n) (S0 := S') a3 hcS (by omega) (fun d acc2 S3 N2 hd hc2 hs2 k2 => ?_) fun acc2 S3 b1 b2 b3 b4 => ?_⟩⟩
          · walk_at "rdx"
            refine ⟨⟨by omega, by omega, hc2⟩, fun r r0 r1 => ?_⟩
            by_cases hr : r = 0
            · simp only [hr, decide_true, if_true]
              exact k2 _ (.inl rfl)
            · simp only [hr, decide_false, Bool.false_eq_true, if_false]
              exact k2 _ (a2 d hd)
          · simp only [b4, a4, e4]
            exact done acc2 S3 _ _ (by rw [b1, a1, hrl, hLn]) b2 (b3.mono (by omega)) (b4.trans a4)
  · subst e1 hU
    rw [rngD_len] at e2 e5
    generalize hg : gNameD 6 = g6
    walk_at "rdx"
    subst hg
    refine ⟨by decide, _, _, rfl, rfl, by simp, by simp, by have := e5.c; omega, fun o ho => ?_⟩
    simp only [HD.tick_hp, e4]
    have hn : rows.length = n.toNat := e2
    have hnn : ((n.toNat : Nat) : Int) = n := Int.toNat_of_nonneg (by omega)
    have hrl : (rngD 0 n.toNat).length = n.toNat := rngD_len _ _
    obtain ⟨ov, rfl, o1, o2⟩ : ∃ ov : Int, o = .int ov ∧ 1 ≤ ov ∧ ov ≤ 5 := by
      rcases List.mem_cons.mp ho with e | ho
      · exact ⟨2, e, by decide, by decide⟩
      rcases List.mem_cons.mp ho with e | ho
      · exact ⟨2, e, by decide, by decide⟩
      rcases List.mem_cons.mp ho with e | ho
      · exact ⟨3, e, by decide, by decide⟩
      · exact ⟨5, List.mem_singleton.mp ho, by decide, by decide⟩
    refine ⟨⟨by omega, by omega⟩, by rw [hrl]; have : (sizeLine : Nat) = 16777216 := rfl; omega, ?_⟩
    refine lcD_go (fun i acc S2 => acc.length = i ∧ (∀ e ∈ acc, ∃ b, e = .bl b) ∧ Up (2 + 6 * n.toNat + 1 + i) S S2) ⟨rfl, fun c h => (by cases h), e5.tick (k := 1)⟩ (fun i d acc S2 N hi ⟨a1, a2, a3⟩ k => ⟨trivial, ?_⟩) fun acc S2 ⟨a1, a2, a3⟩ => ⟨trivial, by decide, ?_⟩
    · obtain ⟨hi1, rfl⟩ := rngD_get hi
      walk_at "rdx"
      refine ⟨⟨o1, by omega, by have := a3.c; omega⟩, fun r r0 r1 => k _ _ ⟨by rw [List.length_append, a1]; rfl, fun e he => ?_, a3.tick (k := 1)⟩⟩
      rcases List.mem_append.mp he with h | h
      · exact a2 e h
      · exact ⟨_, List.mem_singleton.mp h⟩
    · rw [hrl] at a1 a3
      refine (a3.mono (by omega)).fin (q _ ⟨rows, acc, rfl, by omega, by omega, by omega, ?_, a2⟩)
      rw [hn, hnn]
      exact e3
end PM
end

section
local macro_rules | `(tactic| walk_at "rdx") => `(tactic| simp only [PD.pad, PD.gt_z, PD.gt_s, PD.st_z, PD.st_s, PD.sNextD, PD.sSeqD, PD.sBreakD, PD.sContD, PD.sDropD, PD.sRetD, PD.sRetND, PD.sIfD, PD.sNeverD, PD.sAsgD, PD.sPar2, PD.sPar3, PD.gNameD, PD.gNilD, PD.gConsD, PD.gTupD, PD.gSubD, PD.tNilD, PD.tConsD, PD.tTupD, PD.tLstV, PD.tLstR, PD.tBin, PD.tTst, PD.tAndD, PD.tOrD, PD.tNotD, PD.tIfD, PD.tAndV, PD.tOrV, PD.tNotV, PD.tUnD, PD.rNeg, PD.tCallD, PD.tSlot, PD.tCD, PD.tChainD, PD.rIsN, PD.rNotN, PD.rIsiD, PD.isi_non, PD.isi_bl, PD.isi_int, PD.isi_str, PD.isi_tup, PD.isi_lst, PD.isi_dic, PD.Ty.name, PD.rCmpI, PD.fLt, PD.fLe, PD.fGt, PD.fGe, PD.rAddD, PD.rSubD, PD.rFdivD, PD.rModD, PD.rPowD, PD.rMulD, PD.rAddR, PD.rMulR, PD.asSeq, PD.asLst, PD.rLenD, PD.rTupleD, PD.rListV, PD.rListR, PD.rIntD, PD.rBoolD, PD.rAbsD, PD.rIxD, PD.oNone, PD.oSome, PD.tSlD, PD.rSlD, PD.tRevTD, PD.rEqD, PD.rNeD, PD.nrm_non, PD.nrm_bl, PD.nrm_int, PD.nrm_str, PD.nrm_tup, PD.nrm_lst, PD.nrm_dic, PD.nrm_ref, PD.iSeqD, PD.iRng1D, PD.iRng2D, PD.sForD, PD.tLcV, PD.tLcR, PD.tYesD, PD.wipeD, PD.tMethL, PD.rAppD, PD.isRefL, PD.tDicV, PD.keyOf, PD.asDic, PD.srcD, PD.iAnyD, PD.iZipD, PD.iEnumD, PD.tDcV, PD.tDicR, PD.gSubX, PD.rSetX, PD.rIxX, PD.rInD, PD.rInX, PD.rInY, PD.rSumD, PD.tRevLD, PD.tRevX, PD.rSixD, PD.rJoinD, PD.tMethS, PD.rLixD, PD.rPopD, PD.rExtD, PD.tMethA, PD.rSetD, PD.rReprD, PD.eqk_int, PD.eqd_int, PD.eqk_str, PD.eqd_str, PD.eqk_lst0, PD.eqd_lst0, PD.eqk_tup0, PD.eqd_tup0, PD.spFn, PD.spDraw, reduceIte, true_and, and_true, or_false, false_or, Bool.not_true, Bool.not_false, Bool.false_eq_true, List.length_cons, List.length_nil, List.set_cons_zero, List.set_cons_succ, PD.HD.set_same, PD.HD.tick_hp, PD.HD.tick_c, PD.HD.tick_dk, PD.HD.set_c, PD.HD.set_dk])
/-! PM12: one of a text's signs; machines as Mch; the great one. -/
namespace PM
open PySem PySem.Spec PyProof.Rows PD
def spOneT : SpD := fun ds S Q => spOne ds S Q ∨ ∃ z : Str, ds = [.deck, .str z] ∧ 1 ≤ z.length ∧ z.length ≤ 1000 ∧ S.c < 1000000000000 ∧ ∀ c ∈ z.cps.toList, Q (.str ⟨#[c]⟩) (S.tick 1)
theorem oneT_len (ds : List D) (S : HD) (Q : QD) (h : spOneT ds S Q) : ds.length = 2 := by
  rcases h with h | ⟨z, rfl, _⟩
  · exact spOne_len _ _ _ h
  · rfl
theorem oneT_ok (ds : List D) (S : HD) (Q : QD) (h : spOneT ds S Q) : rd__law_one spDraw (ends Q) (pad 2 ds) S := by
  rcases h with h | ⟨z, rfl, h1, h2, h3, q⟩
  · exact oneOk _ _ _ h fun d S q => fin.here q
  have hsl : (sizeLine : Nat) = 16777216 := rfl
  unfold rd__law_one
  walk_at "rdx"
  have hz : z.length = z.cps.toList.length := by simp [Str.length]
  refine ⟨by omega, ⟨by omega, by omega, h3⟩, fun r h0 h1 => ⟨by omega, ?_⟩⟩
  obtain ⟨d, e, m⟩ := atI_nat (xs := z.cps.toList) h0 (by omega)
  rw [e]
  exact fin.here (q d m)
theorem cells_conv {n : Int} : ∀ (cells : List D), (∀ c ∈ cells, CellOk n c) → ∃ r : List (Option Nat), cells = r.map encC ∧ ∀ c ∈ r, ∀ t, c = some t → (t : Int) < n
  | [], _ => ⟨[], rfl, fun c h => (by cases h)⟩
  | c :: cs, h => by
    obtain ⟨r, e, hr⟩ := cells_conv cs fun x hx => h x (List.mem_cons_of_mem _ hx)
    rcases h c List.mem_cons_self with e1 | ⟨j, e1, j0, j1⟩
    · refine ⟨none :: r, by rw [e1, e]; rfl, fun x hx t ht => ?_⟩
      rcases List.mem_cons.mp hx with q | q
      · rw [q] at ht; cases ht
      · exact hr x q t ht
    · refine ⟨some j.toNat :: r, ?_, fun x hx t ht => ?_⟩
      · rw [e1, e, List.map_cons]
        show _ = D.int ((j.toNat : Nat) : Int) :: _
        rw [Int.toNat_of_nonneg j0]
      · rcases List.mem_cons.mp hx with q | q
        · rw [q] at ht
          cases ht
          omega
        · exact hr x q t ht
theorem rows_conv {L : Nat} {n : Int} : ∀ (rows : List D), (∀ r ∈ rows, RowOk L n r) → ∃ rs : List (List (Option Nat)), rows = rs.map encR ∧ (∀ r ∈ rs, r.length = L) ∧ ∀ r ∈ rs, ∀ c ∈ r, ∀ t, c = some t → (t : Int) < n
  | [], _ => ⟨[], rfl, fun c h => (by cases h), fun c h => (by cases h)⟩
  | r :: rows, h => by
    obtain ⟨rs, e, h1, h2⟩ := rows_conv rows fun x hx => h x (List.mem_cons_of_mem _ hx)
    obtain ⟨cells, e1, hl, hc⟩ := h r List.mem_cons_self
    obtain ⟨r0, e2, h3⟩ := cells_conv cells hc
    refine ⟨r0 :: rs, by rw [e1, e2, e]; rfl, fun x hx => ?_, fun x hx => ?_⟩
    · rcases List.mem_cons.mp hx with q | q
      · rw [q]
        rw [e2, List.length_map] at hl
        omega
      · exact h1 x q
    · rcases List.mem_cons.mp hx with q | q
      · rw [q]; exact h3
      · exact h2 x q
theorem ends_conv : ∀ (es : List D), (∀ e ∈ es, ∃ b, e = .bl b) → ∃ bs : List Bool, es = bs.map .bl
  | [], _ => ⟨[], rfl⟩
  | e :: es, h => by
    obtain ⟨bs, q⟩ := ends_conv es fun x hx => h x (List.mem_cons_of_mem _ hx)
    obtain ⟨b, hb⟩ := h e List.mem_cons_self
    exact ⟨b :: bs, by rw [hb, q]; rfl⟩
theorem mach_conv {L : Nat} {m : Int} {M : D} (l1 : 1 ≤ L) (l3 : L ≤ 3) (hm : m ≤ 400) (h : MachOk L m M) : ∃ A : Mch, M = enc A ∧ A.Ok ∧ A.L = L ∧ (A.rows.length : Int) ≤ m := by
  obtain ⟨rows, es, rfl, h1, h2, h3, h4, h5⟩ := h
  obtain ⟨rs, e1, w1, w2⟩ := rows_conv rows h4
  obtain ⟨bs, e2⟩ := ends_conv es h5
  have hr : rows.length = rs.length := by rw [e1, List.length_map]
  have he : es.length = bs.length := by rw [e2, List.length_map]
  refine ⟨⟨L, rs, bs⟩, by rw [e1, e2]; rfl, ⟨l1, l3, by rw [← hr]; exact h1, ?_, by rw [← hr, ← he]; exact h3, w1, fun r hr2 c hc t ht => ?_⟩, rfl, by rw [← hr]; exact h2⟩
  · show rs.length ≤ 400
    omega
  · have := w2 r hr2 c hc t ht
    rw [hr] at this
    show t < rs.length
    omega
def spMachM : SpD := fun ds S Q => ∃ (L : Nat) (m : Int), ds = [.deck, .int (L : Nat), .int m] ∧ 1 ≤ L ∧ L ≤ 3 ∧ 1 ≤ m ∧ m ≤ 8 ∧ S.c + 1000 ≤ 1000000000000 ∧ ∀ M : Mch, M.Ok → M.L = L → Q (enc M) (S.tick 1000)
theorem machM_len (ds : List D) (S : HD) (Q : QD) (h : spMachM ds S Q) : ds.length = 3 := by
  obtain ⟨_, _, rfl, _⟩ := h
  rfl
theorem machM_ok (ds : List D) (S : HD) (Q : QD) (h : spMachM ds S Q) : rd__law_machine spDraw spOne (ends Q) (pad 12 ds) S := by
  obtain ⟨L, m, rfl, l1, l3, m1, m2, hc, q⟩ := h
  refine machD_ok _ _ _ ⟨L, m, rfl, by omega, by omega, m1, m2, hc, fun M hM => ?_⟩
  obtain ⟨A, rfl, ok, hL, _⟩ := mach_conv l1 l3 (by omega) hM
  exact q A ok hL
def spGreat : SpD := fun ds S Q => ∃ (L : Nat), ds = [.deck, .int (L : Nat)] ∧ 1 ≤ L ∧ L ≤ 3 ∧ S.c + 1000 ≤ 1000000000000 ∧ ∀ M : Mch, M.Ok → M.L = L → Q (enc M) (S.tick 1000)
theorem great_len (ds : List D) (S : HD) (Q : QD) (h : spGreat ds S Q) : ds.length = 2 := by
  obtain ⟨_, rfl, _⟩ := h
  rfl
def greatF (L n : Nat) : D → Option D
  | .int i => some (.tup (.int ((i + 1) % (n : Int)) :: List.replicate (L - 1) .non))
  | _ => none
theorem great_ok (ds : List D) (S : HD) (Q : QD) (h : spGreat ds S Q) : rd__law_great spOne spDraw (ends Q) (pad 6 ds) S := by
  obtain ⟨L, rfl, l1, l3, hc, q⟩ := h
  have hsl : (sizeLine : Nat) = 16777216 := rfl
  unfold rd__law_great
  refine seq_step fun N1 hN1 => ?_
  walk_at "rdx"
  refine ⟨by decide, _, _, rfl, rfl, by simp, by simp, by omega, fun d hd => hN1 _ _ ?_⟩
  clear hN1 N1
  obtain ⟨n, rfl, n1, n2⟩ : ∃ n : Nat, d = .int (n : Nat) ∧ 1 ≤ n ∧ n ≤ 400 := by
    rcases List.mem_cons.mp hd with e | hd
    · exact ⟨400, e, by decide, by decide⟩
    rcases List.mem_cons.mp hd with e | hd
    · exact ⟨399, e, by decide, by decide⟩
    · exact ⟨257, List.mem_singleton.mp hd, by decide, by decide⟩
  have nn : (n : Int).toNat = n := Int.toNat_natCast n
  refine seq_step fun N1 hN1 => ?_
  generalize hT : (tBin rAddD (tTupD _) _ : TED) = T1
  walk_at "rdx"
  refine ⟨by omega, by rw [rngD_len]; omega, ?_⟩
  refine lcD_pure (greatF L n) trivial _ _ (fun d hd Q1 Q0 h => ?_) ?_
  · obtain ⟨i, hi⟩ := List.getElem?_of_mem hd
    obtain ⟨hi1, rfl⟩ := rngD_get hi
    subst hT
    walk_at "rdx"
    rw [List.flatten_replicate_singleton, show ((L : Int) - 1).toNat = L - 1 by omega]
    refine ⟨by omega, by decide, by decide, by omega, by rw [List.length_replicate]; omega, h⟩
  · rw [List.nil_append]
    generalize hxs : (rngD 0 (n : Int).toNat).filterMap (greatF L n) = rows
    have hl : rows.length = n := by
      rw [← hxs, lc_len (fun d hd => ?_), rngD_len, nn]
      obtain ⟨i, hi⟩ := List.getElem?_of_mem hd
      obtain ⟨hi1, rfl⟩ := rngD_get hi
      rfl
    have hr : ∀ r ∈ rows, RowOk L n r := by
      intro r hr
      rw [← hxs] at hr
      obtain ⟨d, hd, e⟩ := List.mem_filterMap.mp hr
      obtain ⟨i, hi⟩ := List.getElem?_of_mem hd
      obtain ⟨hi1, rfl⟩ := rngD_get hi
      cases e
      refine ⟨_, rfl, by rw [List.length_cons, List.length_replicate]; omega, fun c hc => ?_⟩
      rcases List.mem_cons.mp hc with e | hc
      · exact .inr ⟨_, e, Int.emod_nonneg _ (by omega), Int.emod_lt_of_pos _ (by omega)⟩
      · exact .inl (List.mem_replicate.mp hc).2
    clear hxs
    intro p hp
    refine hN1 _ _ ?_
    clear hN1 N1 hT T1
    refine seq_step fun N1 hN1 => ?_
    walk_at "rdx"
    refine ⟨⟨by omega, by omega, by omega⟩, fun r r0 r1 => hN1 _ _ ?_⟩
    clear hN1 N1
    refine seq_step fun N1 hN1 => ?_
    obtain ⟨row, hrow, hrm⟩ := atI_nat (xs := rows) r0 (by omega)
    obtain ⟨cells, rfl, c1, c2⟩ := hr row hrm
    walk_at "rdx"
    rw [hrow]
    have e1 : (L : Int) - 1 = ((L - 1 : Nat) : Int) := by omega
    have e2 : L2.ixN rows.length r = some r.toNat := by
      unfold L2.ixN
      rw [if_pos r0, if_pos (by omega)]
    simp only [e1, cut_pre, e2]
    refine ⟨⟨by omega, by omega, by omega⟩, fun v v0 v1 => ⟨by decide, by rw [List.length_take]; omega, hN1 _ _ ?_⟩⟩
    clear hN1 N1
    have hr' : RowOk L n (.tup (cells.take (L - 1) ++ [.int v])) := by
      refine ⟨_, rfl, by rw [List.length_append, List.length_take, List.length_singleton]; omega, fun c hc => ?_⟩
      rcases List.mem_append.mp hc with h | h
      · exact c2 c (List.mem_of_mem_take h)
      · exact .inr ⟨v, List.mem_singleton.mp h, v0, v1⟩
    generalize (D.tup (cells.take (L - 1) ++ [.int v])) = row' at hr'
    have hl2 : (rows.set r.toNat row').length = n := by rw [List.length_set, hl]
    have hr2 : ∀ x ∈ rows.set r.toNat row', RowOk L n x := by
      intro x hx
      rcases List.mem_or_eq_of_mem_set hx with h | h
      · exact hr x h
      · rw [h]; exact hr'
    generalize rows.set r.toNat row' = rows2 at hl2 hr2
    have u1 : Up 3 S (((((S.tick 1).set p (.lst rows)).tick 1).tick 1).set p (.lst rows2)) := (((((Up.refl S).tick (k := 1)).set hp).tick (k := 1)).tick (k := 1)).set hp
    have h1 : (((((S.tick 1).set p (.lst rows)).tick 1).tick 1).set p (.lst rows2)).hp p = some (.lst rows2) := HD.set_same
    generalize (((((S.tick 1).set p (.lst rows)).tick 1).tick 1).set p (.lst rows2)) = S1 at u1 h1
    generalize hT : (tOrV _ _ : TED) = T1
    walk_at "rdx"
    simp only [h1]
    rw [rngD_len, nn]
    refine ⟨by omega, by omega, ?_⟩
    refine lcD_go (fun i acc S2 => acc.length = i ∧ (∀ e ∈ acc, ∃ b, e = .bl b) ∧ Up (3 + i) S S2) ⟨rfl, fun c h => (by cases h), u1⟩ (fun i d acc S2 N hi ⟨a1, a2, a3⟩ k => ⟨trivial, ?_⟩) fun acc S2 ⟨a1, a2, a3⟩ => ⟨trivial, ?_⟩
    · obtain ⟨hi1, rfl⟩ := rngD_get hi
      have cS := a3.c
      subst hT
      walk_at "rdx"
      have nx : ∀ b, N (acc ++ [D.bl b]) (S2.tick 1) := fun b => k _ _ ⟨by rw [List.length_append, a1]; rfl, fun e he => by
        rcases List.mem_append.mp he with h | h
        · exact a2 e h
        · exact ⟨b, List.mem_singleton.mp h⟩, a3.tick (k := 1)⟩
      refine ⟨⟨by decide, by decide, by omega⟩, fun r2 _ _ => ?_⟩
      cases decide (0 + (i : Int) = r2) with
      | true => exact nx _
      | false => exact ⟨by decide, nx _⟩
    · rw [rngD_len] at a1 a3
      obtain ⟨A, e, ok, hL, _⟩ := mach_conv (m := 400) (M := .tup [.int (L : Nat), .tup rows2, .tup acc]) l1 l3 (by decide) ⟨rows2, acc, rfl, by omega, by omega, by omega, by rw [hl2]; exact hr2, a2⟩
      rw [e]
      exact ⟨by decide, (a3.mono (by omega)).fin (q A ok hL)⟩
end PM
end

section
/-! PM13: plain laws of the words; small data. -/
namespace PM
open PySem PySem.Spec PyProof.Rows PD
def wordsF (L : Nat) : Nat → List (List Nat)
  | 0 => [[]]
  | n + 1 => (List.range L).flatMap fun c => (wordsF L n).map (c :: ·)
theorem wordsF_snoc (L : Nat) : ∀ n, wordsF L (n + 1) = (wordsF L n).flatMap fun w => (List.range L).map fun c => w ++ [c]
  | 0 => by
    show (List.range L).flatMap (fun c => [[c]]) = ([[]] : List (List Nat)).flatMap _
    rw [List.flatMap_singleton]
    simp [List.flatMap_singleton', ← List.map_eq_flatMap]
  | n + 1 => by
    have ih := wordsF_snoc L n
    show (List.range L).flatMap (fun c => (wordsF L (n + 1)).map (c :: ·)) = _
    conv => lhs; rw [ih]
    conv => rhs; rw [show wordsF L (n + 1) = (List.range L).flatMap fun c => (wordsF L n).map (c :: ·) from rfl, List.flatMap_assoc]
    congr 1
    funext c
    rw [List.map_flatMap, List.flatMap_map]
    congr 1
    funext w
    rw [List.map_map]
    rfl
theorem wordsL_F (L : Nat) : ∀ n, wordsL L n = wordsF L n
  | 0 => rfl
  | n + 1 => by
    rw [wordsF_snoc, ← wordsL_F L n]
    rfl
def Mch.accF (M : Mch) (s : Nat) (w : List Nat) : Bool := match M.run (some s) w with
  | some s => M.fin s
  | none => false
theorem accF_cons (M : Mch) (s c : Nat) (w : List Nat) : M.accF s (c :: w) = (match M.nx s c with | some t => M.accF t w | none => false) := by
  unfold Mch.accF
  show (match M.run (M.nxo (some s) c) w with | some s => M.fin s | none => false) = _
  have : M.nxo (some s) c = M.nx s c := rfl
  rw [this]
  cases M.nx s c with
  | none => rw [run_none]
  | some t => rfl
theorem filt (M : Mch) : ∀ n s, (wordsF M.L n).filter (M.accF s) = M.A n s
  | 0, s => by
    unfold wordsF Mch.A
    have : M.accF s [] = M.fin s := rfl
    rw [List.filter_cons, this]
    rfl
  | n + 1, s => by
    show ((List.range M.L).flatMap _).filter _ = (M.kids s).flatMap _
    unfold Mch.kids
    generalize List.range M.L = cs
    induction cs with
    | nil => rfl
    | cons c cs ih =>
      rw [List.flatMap_cons, List.filter_append, ih, List.filterMap_cons, List.filter_map]
      cases h : M.nx s c with
      | none =>
        have : ((M.accF s) ∘ fun x => c :: x) = fun _ => false := by
          funext w
          show M.accF s (c :: w) = false
          rw [accF_cons, h]
        rw [this]
        simp
      | some t =>
        have : ((M.accF s) ∘ fun x => c :: x) = M.accF t := by
          funext w
          show M.accF s (c :: w) = _
          rw [accF_cons, h]
        rw [this, filt M n t]
        simp
theorem due_eq (M : Mch) (n : Nat) : (wordsL M.L n).filter M.acc = M.A n 0 := by
  rw [wordsL_F]
  exact filt M n 0
theorem A_acc (M : Mch) {n : Nat} {w : List Nat} (h : w ∈ M.A n 0) : M.acc w = true ∧ WordOk M w ∧ w.length = n := by
  rw [← due_eq] at h
  obtain ⟨h1, h2⟩ := List.mem_filter.mp h
  obtain ⟨h3, h4⟩ := wordsL_ok w h1
  exact ⟨h2, h4, h3⟩
theorem wstr_inj {a b : List Nat} (h : wstr a = wstr b) : a = b := by
  unfold wstr at h
  have h1 : a.map (97 + ·) = b.map (97 + ·) := by
    have := congrArg (fun z : Str => z.cps.toList) h
    simpa using this
  exact (List.map_inj_right fun x y e => by simpa using e).mp h1
end PM
end

section
/-! PM14: small data, for repr. -/
namespace PM
open PySem PySem.Spec PyProof.Rows PD
/-- small data of some depth -/
def Sm (z h : Nat) (v : D) : Prop := okR v = true ∧ dep v ≤ h ∧ sz v ≤ z
theorem Sm.mono {z h z' h' : Nat} {v : D} (s : Sm z h v) (l : z ≤ z') (l' : h ≤ h') : Sm z' h' v := ⟨s.1, Nat.le_trans s.2.1 l', Nat.le_trans s.2.2 l⟩
/-- small lists -/
def SmL (z h : Nat) (xs : List D) : Prop := okRL xs = true ∧ depL xs ≤ h ∧ szL xs ≤ z
theorem SmL.nil : SmL 0 0 [] := ⟨rfl, Nat.le_refl _, Nat.le_refl _⟩
theorem SmL.cons {z h z' h' : Nat} {x : D} {xs : List D} (a : Sm z h x) (b : SmL z' h' xs) : SmL (z + 2 + z') (max h h') (x :: xs) :=
  ⟨by simp only [okRL, a.1, b.1, Bool.and_self], by have := a.2.1; have := b.2.1; simp only [depL]; omega, by have := a.2.2; have := b.2.2; simp only [szL]; omega⟩
theorem SmL.app {z h z' h' : Nat} {xs ys : List D} (a : SmL z h xs) (b : SmL z' h' ys) : SmL (z + z') (max h h') (xs ++ ys) :=
  ⟨okRL_app a.1 b.1, by have := a.2.1; have := b.2.1; rw [depL_app]; omega, by have := a.2.2; have := b.2.2; rw [szL_app]; omega⟩
theorem SmL.take {z h : Nat} {xs : List D} (a : SmL z h xs) (n : Nat) : SmL z h (xs.take n) :=
  ⟨okRL_sub a.1 fun y => List.mem_of_mem_take, Nat.le_trans (depL_sub fun y => List.mem_of_mem_take) a.2.1, Nat.le_trans (szL_take xs n) a.2.2⟩
theorem SmL.drop {z h : Nat} {xs : List D} (a : SmL z h xs) (n : Nat) : SmL z h (xs.drop n) :=
  ⟨okRL_sub a.1 fun y => List.mem_of_mem_drop, Nat.le_trans (depL_sub fun y => List.mem_of_mem_drop) a.2.1, Nat.le_trans (szL_drop xs n) a.2.2⟩
theorem szL_rev (xs : List D) : szL xs.reverse = szL xs := by
  induction xs with
  | nil => rfl
  | cons x xs ih => rw [List.reverse_cons, szL_app, ih]; simp only [szL]; omega
theorem SmL.rev {z h : Nat} {xs : List D} (a : SmL z h xs) : SmL z h xs.reverse :=
  ⟨okRL_sub a.1 fun y => List.mem_reverse.mp, Nat.le_trans (depL_sub fun y => List.mem_reverse.mp) a.2.1, by rw [szL_rev]; exact a.2.2⟩
theorem SmL.of {z h : Nat} {xs : List D} (a : ∀ x ∈ xs, Sm z h x) : SmL (xs.length * (z + 2)) h xs :=
  ⟨okRL_of fun x hx => (a x hx).1, depL_of fun x hx => (a x hx).2.1, szL_of fun x hx => (a x hx).2.2⟩
theorem SmL.mono {z h z' h' : Nat} {xs : List D} (s : SmL z h xs) (l : z ≤ z') (l' : h ≤ h') : SmL z' h' xs := ⟨s.1, Nat.le_trans s.2.1 l', Nat.le_trans s.2.2 l⟩
theorem SmL.tup {z h : Nat} {xs : List D} (a : SmL z h xs) : Sm (z + 3) (h + 1) (.tup xs) := ⟨a.1, by simp only [dep]; exact Nat.succ_le_succ a.2.1, by simp only [sz]; exact Nat.add_le_add_right a.2.2 3⟩
theorem SmL.lst {z h : Nat} {xs : List D} (a : SmL z h xs) : Sm (z + 3) (h + 1) (.lst xs) := ⟨a.1, by simp only [dep]; exact Nat.succ_le_succ a.2.1, by simp only [sz]; exact Nat.add_le_add_right a.2.2 3⟩
theorem SmL.get {z h : Nat} {xs : List D} {x : D} (a : SmL z h xs) (hx : x ∈ xs) : Sm z h x := ⟨okRL_mem a.1 hx, Nat.le_trans (depL_le hx) a.2.1, Nat.le_trans (szL_mem hx) a.2.2⟩
theorem sm_int {i : Int} (h0 : -1 ≤ i) (h1 : i ≤ 1000) : Sm 13 0 (.int i) := by
  have h2 : i.natAbs < 1024 := by omega
  have h3 : i.natAbs.log2 < 10 := by
    by_cases h : i.natAbs = 0
    · rw [h]; decide
    · exact (Nat.log2_lt h).mpr h2
  exact ⟨by simp only [okR, decide_eq_true_eq]; omega, Nat.le_refl _, by simp only [sz]; omega⟩
theorem sm_non : Sm 13 0 .non := ⟨rfl, Nat.le_refl _, by decide⟩
theorem sm_bl {b : Bool} : Sm 13 0 (.bl b) := ⟨rfl, Nat.le_refl _, (by decide : 5 ≤ 13)⟩

theorem Sm.bound {z h : Nat} {v : D} (s : Sm z h v) (l : z ≤ 16000000) (l' : h ≤ 60) : okR v = true ∧ dep v ≤ 60 ∧ sz v ≤ 16000000 := ⟨s.1, Nat.le_trans s.2.1 l', Nat.le_trans s.2.2 l⟩
theorem wstr_strOk {w : List Nat} (h : ∀ c ∈ w, c < 3) : PyData.strOk (wstr w) = true := by
  unfold PyData.strOk wstr
  simp
  intro c hc
  have := h c hc
  omega
theorem sm_word {w : List Nat} (h : ∀ c ∈ w, c < 3) (hl : w.length ≤ 500) : Sm 5002 0 (wD w) :=
  ⟨wstr_strOk h, Nat.le_refl _, by show 10 * (wstr w).length + 2 ≤ 5002; rw [wstr_len]; omega⟩
theorem sm_words {ws : List (List Nat)} (h : ∀ w ∈ ws, (∀ c ∈ w, c < 3) ∧ w.length ≤ 500) (hl : ws.length ≤ 60) : SmL 300240 0 (ws.map wD) :=
  (SmL.of (z := 5002) fun x hx => by
    obtain ⟨w, hw, rfl⟩ := List.mem_map.mp hx
    exact sm_word (h w hw).1 (h w hw).2).mono (by rw [List.length_map]; omega) (Nat.le_refl _)
theorem A_le (M : Mch) (l3 : M.L ≤ 3) : ∀ n s, (M.A n s).length ≤ 3 ^ n
  | 0, s => by
    unfold Mch.A
    split <;> simp
  | n + 1, s => by
    show ((M.kids s).flatMap _).length ≤ _
    have kl : (M.kids s).length ≤ 3 := by
      unfold Mch.kids
      exact Nat.le_trans (List.length_filterMap_le _ _) (by simpa using l3)
    have : ∀ ps : List (Nat × Nat), (ps.flatMap fun p => (M.A n p.2).map (p.1 :: ·)).length ≤ ps.length * 3 ^ n := by
      intro ps
      induction ps with
      | nil => simp
      | cons p ps ih =>
        rw [List.flatMap_cons, List.length_append, List.length_map, List.length_cons, Nat.add_mul, Nat.one_mul]
        have := A_le M l3 n p.2
        omega
    refine Nat.le_trans (this _) ?_
    rw [Nat.pow_succ, Nat.mul_comm]
    exact Nat.mul_le_mul_left _ kl
theorem sm_cnt {M : Mch} (l3 : M.L ≤ 3) {n : Nat} (hn : n ≤ 400) : Sm 900 0 (cntD M n 0) := by
  have h1 : M.cnt n 0 < 2 ^ 800 := by
    have a : M.cnt n 0 ≤ 3 ^ n := A_le M l3 n 0
    have b : (3 : Nat) ^ n ≤ 3 ^ 400 := Nat.pow_le_pow_right (by decide) hn
    have c : (3 : Nat) ^ 400 < 2 ^ 800 := by decide +kernel
    omega
  have h2 : (M.cnt n 0).log2 < 800 := by
    by_cases h : M.cnt n 0 = 0
    · rw [h]; decide
    · exact (Nat.log2_lt h).mpr h1
  have e : ((M.cnt n 0 : Nat) : Int).natAbs = M.cnt n 0 := Int.natAbs_natCast _
  exact ⟨by simp only [cntD, okR, decide_eq_true_eq, e]; omega, Nat.le_refl _, by simp only [cntD, sz, e]; omega⟩
theorem sm_enc {M : Mch} (ok : M.Ok) : Sm 100000 3 (enc M) := by
  have l3 := ok.l3
  have n4 := ok.n4
  have en := ok.en
  have h1 : SmL (400 * 50) 1 (M.rows.map encR) := by
    refine (SmL.of (z := 48) (h := 1) fun x hx => ?_).mono (by rw [List.length_map]; omega) (Nat.le_refl _)
    obtain ⟨r, hr, rfl⟩ := List.mem_map.mp hx
    have : SmL (r.length * 15) 0 (r.map encC) := by
      refine (SmL.of (z := 13) fun y hy => ?_).mono (by rw [List.length_map]; omega) (Nat.le_refl _)
      obtain ⟨c, hc, rfl⟩ := List.mem_map.mp hy
      cases c with
      | none => exact sm_non
      | some t =>
        have := ok.lt r hr _ hc t rfl
        exact sm_int (by omega) (by omega)
    have hw := ok.wd r hr
    exact this.tup.mono (by omega) (Nat.le_refl _)
  have h2 : SmL (400 * 15) 0 (M.ends.map D.bl) := by
    refine (SmL.of (z := 13) fun x hx => ?_).mono (by rw [List.length_map]; omega) (Nat.le_refl _)
    obtain ⟨b, hb, rfl⟩ := List.mem_map.mp hx
    exact sm_bl
  have h3 : Sm 13 0 (.int (M.L : Nat)) := sm_int (by omega) (by omega)
  exact ((SmL.cons h3 (SmL.cons h1.tup (SmL.cons h2.tup SmL.nil))).tup).mono (by decide) (by decide)
theorem inF_words (w : List Nat) (ws : List (List Nat)) : inF (wD w) (ws.map wD) = decide (w ∈ ws) := by
  unfold inF
  rw [List.any_map]
  have e : ∀ x, ((fun y => eqF y (wD w)) ∘ wD) x = decide (x = w) := by
    intro x
    show ((wstr x) == (wstr w)) = _
    by_cases h : x = w
    · subst h; simp
    · have : wstr x ≠ wstr w := fun e => h (wstr_inj e)
      simp [h, this]
  rw [show ((fun y => eqF y (wD w)) ∘ wD) = fun x => decide (x = w) from funext e]
  induction ws with
  | nil => rfl
  | cons x xs ih =>
    rw [List.any_cons, ih]
    by_cases h : x = w
    · subst h; simp
    · have : w ≠ x := fun e => h e.symm
      simp [h, this]
theorem flat_words (ws : List (List Nat)) : (ws.map wD).all flatD = true := by
  rw [List.all_map]
  exact List.all_eq_true.mpr fun x _ => rfl
theorem glue_fold : ∀ (w : List Nat) (a : Array Nat), (w.map sgn).foldl (fun acc p => acc ++ (Str.ofString "").cps ++ p.cps) a = a ++ (w.map (97 + ·)).toArray
  | [], a => by simp
  | c :: w, a => by
    rw [List.map_cons, List.foldl_cons, glue_fold w]
    show (a ++ #[] ++ #[97 + c]) ++ _ = _
    simp
theorem join_signs (w : List Nat) : Txt.join (Str.ofString "") (w.map sgn) = wstr w := by
  cases w with
  | nil => rfl
  | cons c w =>
    show Str.mk ((w.map sgn).foldl (fun acc p => acc ++ (Str.ofString "").cps ++ p.cps) #[97 + c]) = _
    rw [glue_fold]
    unfold wstr
    congr 1
    simp
end PM
end

section
/-! PN1: machines as plain mathematics: residuals, reduced machines, their being one alone. -/
namespace PM
theorem sub_len {α : Type} [BEq α] [LawfulBEq α] : ∀ {l m : List α}, l.Nodup → (∀ x ∈ l, x ∈ m) → l.length ≤ m.length
  | [], _, _, _ => Nat.zero_le _
  | x :: l, m, hn, hs => by
    rw [List.nodup_cons] at hn
    have hx := hs x List.mem_cons_self
    have ih := sub_len (l := l) (m := m.erase x) hn.2 fun y hy => by
      have ne : y ≠ x := fun e => hn.1 (e ▸ hy)
      exact (List.mem_erase_of_ne ne).mpr (hs y (List.mem_cons_of_mem _ hy))
    rw [List.length_erase_of_mem hx] at ih
    have : 0 < m.length := List.length_pos_of_mem hx
    simp only [List.length_cons]
    omega
theorem pig {k : Nat} {l : List Nat} (hn : l.Nodup) (hl : ∀ x ∈ l, x < k) (hk : k ≤ l.length) (y : Nat) (hy : y < k) : y ∈ l := by
  apply Classical.byContradiction
  intro h
  have := sub_len (m := (List.range k).erase y) hn fun x hx => (List.mem_erase_of_ne fun (e : x = y) => h (e ▸ hx)).mpr (List.mem_range.mpr (hl x hx))
  rw [List.length_erase_of_mem (List.mem_range.mpr hy), List.length_range] at this
  omega
theorem lt_len {k : Nat} {l : List Nat} (hn : l.Nodup) (hl : ∀ x ∈ l, x < k) : l.length ≤ k := by
  have := sub_len (m := List.range k) hn fun x hx => List.mem_range.mpr (hl x hx)
  simpa using this
/-- residuals -/
def Mch.live (M : Mch) (s : Nat) : Prop := ∃ w, M.accF s w = true
def Mch.req (M : Mch) (s t : Nat) : Prop := ∀ w, M.accF s w = M.accF t w
def Mch.reach (M : Mch) (s : Nat) : Prop := ∃ w, M.run (some 0) w = some s
theorem acc_F (M : Mch) (w : List Nat) : M.acc w = M.accF 0 w := rfl
theorem accF_nil (M : Mch) (s : Nat) : M.accF s [] = M.fin s := rfl
theorem nx_ge {M : Mch} (ok : M.Ok) {s c : Nat} (h : M.L ≤ c) : M.nx s c = none := by
  unfold Mch.nx
  cases e : M.rows[s]? with
  | none => rfl
  | some r =>
    have := ok.wd r (List.mem_of_getElem? e)
    simp [List.getElem?_eq_none (show r.length ≤ c by omega)]
theorem nx_c {M : Mch} (ok : M.Ok) {s c t : Nat} (h : M.nx s c = some t) : c < M.L := by
  apply Nat.lt_of_not_le
  intro z
  rw [nx_ge ok z] at h
  cases h
theorem nx_s {M : Mch} {s c t : Nat} (h : M.nx s c = some t) : s < M.rows.length := by
  apply Nat.lt_of_not_le
  intro z
  unfold Mch.nx at h
  rw [List.getElem?_eq_none z] at h
  cases h
theorem live_nx {M : Mch} {s c t : Nat} (h : M.nx s c = some t) (l : M.live t) : M.live s := by
  obtain ⟨w, hw⟩ := l
  exact ⟨c :: w, by rw [accF_cons, h]; exact hw⟩
theorem live_next {M : Mch} {s : Nat} {c : Nat} {w : List Nat} (h : M.accF s (c :: w) = true) : ∃ t, M.nx s c = some t ∧ M.accF t w = true := by
  rw [accF_cons] at h
  cases e : M.nx s c with
  | none => rw [e] at h; cases h
  | some t => rw [e] at h; exact ⟨t, rfl, h⟩
theorem acc_ok {M : Mch} (ok : M.Ok) : ∀ {w : List Nat} {s : Nat}, M.accF s w = true → WordOk M w
  | [], _, _ => fun _ h => nomatch h
  | c :: w, s, h => by
    obtain ⟨t, h1, h2⟩ := live_next h
    intro x hx
    rcases List.mem_cons.mp hx with e | hx
    · subst e; exact nx_c ok h1
    · exact acc_ok ok h2 x hx
theorem run_app (M : Mch) : ∀ (u v : List Nat) (s : Option Nat), M.run s (u ++ v) = M.run (M.run s u) v
  | [], _, _ => rfl
  | c :: u, v, s => run_app M u v (M.nxo s c)
theorem reach_0 (M : Mch) : M.reach 0 := ⟨[], rfl⟩
theorem reach_nx {M : Mch} {s c t : Nat} (r : M.reach s) (h : M.nx s c = some t) : M.reach t := by
  obtain ⟨w, hw⟩ := r
  exact ⟨w ++ [c], by rw [run_app, hw]; exact h⟩
/-- all that is reached lies in a closed set with 0 -/
theorem reach_in {M : Mch} (P : Nat → Prop) (h0 : P 0) (h : ∀ s c t, P s → M.nx s c = some t → P t) : ∀ (w : List Nat) (s t : Nat), P s → M.run (some s) w = some t → P t
  | [], s, t, hs, e => by cases e; exact hs
  | c :: w, s, t, hs, e => by
    have e' : M.run (M.nx s c) w = some t := e
    cases hn : M.nx s c with
    | none => rw [hn, run_none] at e'; cases e'
    | some u => rw [hn] at e'; exact reach_in P h0 h w u t (h s c u hs hn) e'
theorem live_in {M : Mch} (P : Nat → Prop) (h0 : ∀ s, M.fin s = true → P s) (h : ∀ s c t, M.nx s c = some t → P t → P s) : ∀ (w : List Nat) (s : Nat), M.accF s w = true → P s
  | [], s, e => h0 s e
  | c :: w, s, e => by
    obtain ⟨t, h1, h2⟩ := live_next e
    exact h s c t h1 (live_in P h0 h w t h2)
/-- numbered as the first words come to the states -/
structure Red (M : Mch) : Prop where
  live : ∀ s, s < M.rows.length → M.live s
  dis : ∀ s t, s < M.rows.length → t < M.rows.length → M.req s t → s = t
  num : ∀ j, 0 < j → j < M.rows.length → ∃ i c, i < j ∧ M.nx i c = some j ∧ ∀ i' c' j', (i' < i ∨ (i' = i ∧ c' < c)) → M.nx i' c' = some j' → j' < j
def triv (L : Nat) : Mch := ⟨L, [List.replicate L none], [false]⟩
def Smallest (M : Mch) : Prop := Red M ∨ (M = triv M.L ∧ ∀ w, M.acc w = false)
theorem red_step {M1 M2 : Mch} (o1 : M1.Ok) (o2 : M2.Ok) (r1 : Red M1) (r2 : Red M2) (e : ∀ w, M1.acc w = M2.acc w) : ∀ n j, j < n → j < M1.rows.length → j < M2.rows.length ∧ ∀ w, M1.accF j w = M2.accF j w
  | 0, j, h, _ => absurd h (Nat.not_lt_zero _)
  | n + 1, j, hjn, hj => by
    have IH : ∀ j', j' < j → j' < M1.rows.length → j' < M2.rows.length ∧ ∀ w, M1.accF j' w = M2.accF j' w := fun j' h h' => red_step o1 o2 r1 r2 e n j' (by omega) h'
    by_cases h0 : j = 0
    · subst h0
      exact ⟨o2.n1, e⟩
    obtain ⟨i, c, hi, hn, hmin⟩ := r1.num j (by omega) hj
    obtain ⟨hi2, ei⟩ := IH i hi (by omega)
    have step : ∀ {i c t}, i < j → M1.nx i c = some t → (∀ w, M1.accF i w = M2.accF i w) → M1.live t → ∃ t2, M2.nx i c = some t2 ∧ ∀ w, M1.accF t w = M2.accF t2 w := by
      intro i c t _ hn ei ⟨w, hw⟩
      have : M2.accF i (c :: w) = true := by rw [← ei, accF_cons, hn]; exact hw
      obtain ⟨t2, h1, _⟩ := live_next this
      refine ⟨t2, h1, fun v => ?_⟩
      have := ei (c :: v)
      rw [accF_cons, accF_cons, hn, h1] at this
      exact this
    obtain ⟨j2, hn2, e2⟩ := step hi hn ei (r1.live j hj)
    have hj2 := M2.nx_lt o2 hn2
    have ge : ¬ j2 < j := fun lt => by
      obtain ⟨_, e3⟩ := IH j2 lt (by omega)
      have := r1.dis j2 j (by omega) hj fun w => by rw [e3, e2]
      omega
    have le : ¬ j < j2 := fun lt => by
      obtain ⟨i0, c0, hi0, hn0, hmin0⟩ := r2.num j (by omega) (by omega)
      have ea : i0 < i ∨ (i0 = i ∧ c0 < c) := by
        rcases Nat.lt_trichotomy i i0 with h | h | h
        · have := hmin0 i c j2 (.inl h) hn2; omega
        · rcases Nat.lt_trichotomy c c0 with h' | h' | h'
          · have := hmin0 i c j2 (.inr ⟨h, h'⟩) hn2; omega
          · subst h h'
            rw [hn2] at hn0
            injection hn0
            omega
          · exact .inr ⟨h.symm, h'⟩
        · exact .inl h
      have hi0j : i0 < j := hi0
      obtain ⟨_, e0⟩ := IH i0 hi0j (by omega)
      obtain ⟨w, hw⟩ := r2.live j (by omega)
      have : M1.accF i0 (c0 :: w) = true := by rw [e0, accF_cons, hn0]; exact hw
      obtain ⟨j', hn', _⟩ := live_next this
      have hj' : j' < j := hmin i0 c0 j' ea hn'
      have e4 : ∀ v, M1.accF j' v = M2.accF j v := fun v => by
        have := e0 (c0 :: v)
        rw [accF_cons, accF_cons, hn', hn0] at this
        exact this
      obtain ⟨h5, e5⟩ := IH j' hj' (by omega)
      have := r2.dis j' j h5 (by omega) fun w => by rw [← e5, e4]
      omega
    have : j2 = j := by omega
    subst this
    exact ⟨hj2, e2⟩
theorem red_nx {M1 M2 : Mch} (o1 : M1.Ok) (o2 : M2.Ok) (r1 : Red M1) (r2 : Red M2) (e : ∀ w, M1.acc w = M2.acc w) {i c t : Nat} (h : M1.nx i c = some t) : M2.nx i c = some t := by
  have hi := nx_s h
  have ht := M1.nx_lt o1 h
  obtain ⟨h2, ei⟩ := red_step o1 o2 r1 r2 e (i + 1) i (by omega) hi
  obtain ⟨w, hw⟩ := r1.live t ht
  have : M2.accF i (c :: w) = true := by rw [← ei, accF_cons, h]; exact hw
  obtain ⟨t2, h1, _⟩ := live_next this
  have e3 : ∀ v, M1.accF t v = M2.accF t2 v := fun v => by
    have := ei (c :: v)
    rw [accF_cons, accF_cons, h, h1] at this
    exact this
  obtain ⟨h4, e4⟩ := red_step o1 o2 r1 r2 e (t + 1) t (by omega) ht
  have := r2.dis t t2 h4 (M2.nx_lt o2 h1) fun w => by rw [← e4, e3]
  subst this
  exact h1
theorem red_eq {M1 M2 : Mch} (o1 : M1.Ok) (o2 : M2.Ok) (r1 : Red M1) (r2 : Red M2) (hL : M1.L = M2.L) (e : ∀ w, M1.acc w = M2.acc w) : M1 = M2 := by
  have n12 : M1.rows.length = M2.rows.length := by
    apply Nat.le_antisymm
    · apply Nat.le_of_not_lt
      intro h
      exact Nat.lt_irrefl _ (red_step o1 o2 r1 r2 e (M2.rows.length + 1) M2.rows.length (by omega) h).1
    · apply Nat.le_of_not_lt
      intro h
      exact Nat.lt_irrefl _ (red_step o2 o1 r2 r1 (fun w => (e w).symm) (M1.rows.length + 1) M1.rows.length (by omega) h).1
  have nx12 : ∀ i c, M1.nx i c = M2.nx i c := fun i c => by
    cases h : M1.nx i c with
    | some t => exact (red_nx o1 o2 r1 r2 e h).symm
    | none =>
      cases h2 : M2.nx i c with
      | none => rfl
      | some t =>
        have := red_nx o2 o1 r2 r1 (fun w => (e w).symm) h2
        rw [h] at this
        cases this
  have rows : M1.rows = M2.rows := by
    apply List.ext_getElem n12
    intro i h1 h2
    have l1 := o1.wd _ (List.getElem_mem h1)
    have l2 := o2.wd _ (List.getElem_mem h2)
    apply List.ext_getElem (by omega)
    intro c c1 c2
    have := nx12 i c
    unfold Mch.nx at this
    simpa [h1, h2, c1, c2] using this
  have ends : M1.ends = M2.ends := by
    apply List.ext_getElem (by rw [o1.en, o2.en, n12])
    intro i h1 h2
    have hi : i < M1.rows.length := by rw [← o1.en]; exact h1
    have := (red_step o1 o2 r1 r2 e (i + 1) i (by omega) hi).2 []
    rw [accF_nil, accF_nil] at this
    unfold Mch.fin at this
    simpa [h1, h2] using this
  cases M1
  cases M2
  simp only at hL rows ends
  subst hL rows ends
  rfl
theorem smallest_eq {M1 M2 : Mch} (o1 : M1.Ok) (o2 : M2.Ok) (r1 : Smallest M1) (r2 : Smallest M2) (hL : M1.L = M2.L) (e : ∀ w, M1.acc w = M2.acc w) : M1 = M2 := by
  have non : ∀ {M M' : Mch}, M.Ok → Red M → (∀ w, M.acc w = M'.acc w) → (∀ w, M'.acc w = false) → False := fun o r e e2 => by
    obtain ⟨w, hw⟩ := r.live 0 o.n1
    have := e w
    rw [e2] at this
    rw [← acc_F, this] at hw
    cases hw
  rcases r1 with r1 | ⟨e1, f1⟩ <;> rcases r2 with r2 | ⟨e2, f2⟩
  · exact red_eq o1 o2 r1 r2 hL e
  · exact (non o1 r1 e f2).elim
  · exact (non o2 r2 (fun w => (e w).symm) f1).elim
  · rw [e1, e2, hL]
/-! ### parts -/
theorem stable {st qs : List Nat} {p g : Nat → Nat} {many more : Nat} (hq : ∀ q ∈ qs, q ∈ st) (hqn : (qs.map p).Nodup) (hl : qs.length = many) (hg : ∀ s ∈ st, g s < more) (href : ∀ s ∈ st, ∀ t ∈ st, g s = g t → p s = p t) (hle : more ≤ many) :
    ∀ s ∈ st, ∀ t ∈ st, p s = p t → g s = g t := by
  have hgn : (qs.map g).Nodup := by
    unfold List.Nodup at hqn ⊢
    rw [List.pairwise_map] at hqn ⊢
    exact hqn.imp_of_mem fun {a b} ha hb h e => h (href a (hq a ha) b (hq b hb) e)
  have rep : ∀ s ∈ st, ∃ q ∈ qs, g q = g s := fun s hs => by
    have := pig hgn (fun x hx => by obtain ⟨q, h1, rfl⟩ := List.mem_map.mp hx; exact hg q (hq q h1)) (by rw [List.length_map]; omega) (g s) (hg s hs)
    obtain ⟨q, h1, h2⟩ := List.mem_map.mp this
    exact ⟨q, h1, h2⟩
  intro s hs t ht e
  obtain ⟨q, h1, h2⟩ := rep s hs
  obtain ⟨q', h3, h4⟩ := rep t ht
  have e1 := href q (hq q h1) s hs h2
  have e2 := href q' (hq q' h3) t ht h4
  have : q = q' := by
    unfold List.Nodup at hqn
    rw [List.pairwise_map] at hqn
    apply Classical.byContradiction
    intro ne
    have key : ∀ (l : List Nat), l.Pairwise (fun a b => p a ≠ p b) → ∀ a ∈ l, ∀ b ∈ l, a ≠ b → p a ≠ p b := by
      intro l hl
      induction l with
      | nil => intro a ha; cases ha
      | cons x l ih =>
        rw [List.pairwise_cons] at hl
        intro a ha b hb ne
        rcases List.mem_cons.mp ha with ea | ha'
        · rcases List.mem_cons.mp hb with eb | hb'
          · exact (ne (ea.trans eb.symm)).elim
          · rw [ea]; exact hl.1 b hb'
        · rcases List.mem_cons.mp hb with eb | hb'
          · rw [eb]; exact fun e => hl.1 a ha' e.symm
          · exact ih hl.2 a ha' b hb' ne
    exact key qs hqn q h1 q' h3 ne (by rw [e1, e2, e])
  rw [← h2, ← h4, this]
open PySem PySem.Spec PyProof.Rows PD
/-- a tuple or a frozen list -/
def seqD : Bool → List D → D
  | true, xs => .tup xs
  | false, xs => .lst xs
section
variable {S : HD} {b : Bool} {xs : List D}
theorem asSeq_sq : asSeq S (seqD b xs) = some xs := by cases b <;> rfl
theorem asDic_sq : asDic S (seqD b xs) = none := by cases b <;> rfl
theorem tdOf_sq : tdOf S (seqD b xs) = none := by cases b <;> rfl
theorem srcD_sq : srcD S (seqD b xs) = some (xs, fun _ => True) := by cases b <;> rfl
theorem rIxD_sq {i : Int} {Q : QD} : rIxD (seqD b xs) (.int i) S Q = (match L2.atI xs i with
  | some d => Q d S
  | none => False) := by cases b <;> rfl
theorem any_sq {A : Str → Prop} {B : Prop} (h : B) : (match seqD b xs with
  | .str z => A z
  | _ => B) := by cases b <;> exact h
end
end PM
end

section
namespace PM
open PySem PySem.Spec PyProof.Rows L2 PD
def rd_size (sp_shrunk : SpD) (sp_counts : SpD) : TSD :=
  sSeqD (sAsgD (tCallD sp_shrunk (tConsD (tBin rIxX (tSlot 0) (tCD (.int 0))) (tConsD (tBin rIxX (tSlot 0) (tCD (.int 1))) (tConsD (tBin rIxX (tSlot 0) (tCD (.int 2))) (tNilD))))) (gNameD 1))
  (sSeqD (sAsgD (tCallD sp_counts (tConsD (tSlot 1) (tConsD (tBin rMulD (tCD (.int 2)) (tCallD rLenD (tConsD (tBin rIxX (tSlot 1) (tCD (.int 1))) (tNilD)))) (tNilD)))) (gNameD 2))
  (sSeqD (sIfD (tTst (tBin (rCmpI fGt) (tCallD rSumD (tConsD (tSlD (tSlot 2) (oSome (tCallD rLenD (tConsD (tBin rIxX (tSlot 1) (tCD (.int 1))) (tNilD)))) (oNone)) (tNilD))) (tCD (.int 0)))) (sRetD (tCD .non)) (sNextD))
  (sRetD (tCallD rSumD (tConsD (tSlot 2) (tNilD))))))
def rd_next_of : TSD :=
  sRetD (tIfD (tTst (tUnD rIsN (tSlot 1))) (tCD .non) (tBin rIxX (tBin rIxX (tBin rIxX (tSlot 0) (tCD (.int 1))) (tSlot 1)) (tSlot 2)))
def rd_ends_at : TSD :=
  sRetD (tAndV (tUnD rNotN (tSlot 1)) (tBin rIxX (tBin rIxX (tSlot 0) (tCD (.int 2))) (tSlot 1)))
def rd_met_from : TSD :=
  sSeqD (sPar3 1 2 3 (tConsD (tLstR (tConsD (tCD (.int 0)) (tNilD))) (tConsD (tDispR [(tCD (.int 0), tCD (.bl true))]) (tConsD (tCD (.int 0)) (tNilD)))))
  (sSeqD (sWhileD (tTst (tBin (rCmpI fLt) (tSlot 3) (tCallD rLenD (tConsD (tSlot 1) (tNilD))))) (sSeqD (sForD (iAnyD (tBin rIxX (tSlot 0) (tBin rIxX (tSlot 1) (tSlot 3)))) (gNameD 4) (sIfD (tAndD (tTst (tUnD rNotN (tSlot 4))) (tTst (tBin (rInY true) (tSlot 4) (tSlot 2)))) (sSeqD (sAsgD (tCD (.bl true)) (gSubX (tSlot 2) (tSlot 4)))
  (sDropD (tMethL rAppD (tSlot 1) (tConsD (tSlot 4) (tNilD))))) (sNextD)))
  (sAsgD (tBin rAddD (tSlot 3) (tCD (.int 1))) (gNameD 3))))
  (sRetD (tSlot 1)))
def rd_living : TSD :=
  sSeqD (sAsgD (tLcV (iAnyD (tSlot 0)) (gNameD 4) (tYesD) (tLstR (tNilD)) [4]) (gNameD 2))
  (sSeqD (sForD (iEnumD (tConsD (tSlot 0) (tNilD))) (gTupD 2 (gConsD (gNameD 3) (gConsD (gNameD 4) (gNilD)))) (sForD (iAnyD (tSlot 4)) (gNameD 5) (sIfD (tTst (tUnD rNotN (tSlot 5))) (sDropD (tMethL rAppD (tBin rIxX (tSlot 2) (tSlot 5)) (tConsD (tSlot 3) (tNilD)))) (sNextD))))
  (sSeqD (sAsgD (tDicR) (gNameD 6))
  (sSeqD (sForD (iEnumD (tConsD (tSlot 1) (tNilD))) (gTupD 2 (gConsD (gNameD 3) (gConsD (gNameD 7) (gNilD)))) (sIfD (tTst (tSlot 7)) (sAsgD (tCD (.bl true)) (gSubX (tSlot 6) (tSlot 3))) (sNextD)))
  (sSeqD (sAsgD (tCallD (rListW true) (tConsD (tSlot 6) (tNilD))) (gNameD 8))
  (sSeqD (sWhileD (tTst (tBin rNeD (tSlot 8) (tLstV (tNilD)))) (sForD (iAnyD (tBin rIxX (tSlot 2) (tMethA rPopD (tSlot 8) tNilD))) (gNameD 3) (sIfD (tTst (tBin (rInY true) (tSlot 3) (tSlot 6))) (sSeqD (sAsgD (tCD (.bl true)) (gSubX (tSlot 6) (tSlot 3)))
  (sDropD (tMethL rAppD (tSlot 8) (tConsD (tSlot 3) (tNilD))))) (sNextD))))
  (sRetD (tSlot 6)))))))
def rd_parted (w : World) : TSD :=
  sSeqD (sAsgD (tDcV (iAnyD (tSlot 2)) (gNameD 8) (tYesD) (tSlot 8) (tCallD rIntD (tConsD (tBin (rIxW w) (tSlot 1) (tSlot 8)) (tNilD))) [8]) (gNameD 3))
  (sSeqD (sPar2 4 5 (tConsD (tCD (.int 0)) (tConsD (tLenSetD (tLcV (iAnyD (tSlot 2)) (gNameD 8) (tYesD) (tBin (rIxW w) (tSlot 3) (tSlot 8)) [8])) (tNilD))))
  (sSeqD (sWhileD (tTst (tBin (rCmpI fGt) (tSlot 5) (tSlot 4))) (sSeqD (sPar3 4 6 7 (tConsD (tSlot 5) (tConsD (tDicW w) (tConsD (tDicW w) (tNilD)))))
  (sSeqD (sForD (iAnyD (tSlot 2)) (gNameD 8) (sSeqD (sAsgD (tBin rAddD (tTupD (tConsD (tBin (rIxW w) (tSlot 3) (tSlot 8)) (tNilD))) (tCallD rTupleD (tConsD (tLcV (iAnyD (tBin (rIxW w) (tSlot 0) (tSlot 8))) (gNameD 10) (tYesD) (tMethW w (rGetW w) (tSlot 3) (tConsD (tSlot 10) (tNilD))) [10]) (tNilD)))) (gNameD 9))
  (sAsgD (tMethW w (rSetdW w) (tSlot 6) (tConsD (tSlot 9) (tConsD (tCallD (rLenW w) (tConsD (tSlot 6) (tNilD))) (tNilD)))) (gSubW w (tSlot 7) (tSlot 8)))))
  (sSeqD (sCvD (sAsgD (tTupD (tConsD (tSlot 7) (tConsD (tCallD (rLenW w) (tConsD (tSlot 6) (tNilD))) (tNilD)))) (gTupD 2 (gConsD (gNameD 3) (gConsD (gNameD 5) (gNilD))))))
  (sIfD (tTst (tBin (rCmpI fGt) (tSlot 5) (tCD (.int 400)))) (sNeverD) (sNextD))))))
  (sRetD (tSlot 3))))
def rd_shrunk (sp_living : SpD) (sp_parted : SpD) (sp_met_from : SpD) : TSD :=
  sSeqD (sAsgD (tCallD sp_living (tConsD (tSlot 1) (tConsD (tSlot 2) (tNilD)))) (gNameD 3))
  (sSeqD (sIfD (tTst (tBin (rInY true) (tCD (.int 0)) (tSlot 3))) (sRetD (tTupD (tConsD (tSlot 0) (tConsD (tTupD (tConsD (tBin rMulD (tTupD (tConsD (tCD .non) (tNilD))) (tSlot 0)) (tNilD))) (tConsD (tTupD (tConsD (tCD (.bl false)) (tNilD))) (tNilD)))))) (sNextD))
  (sSeqD (sAsgD (tCallD sp_parted (tConsD (tSlot 1) (tConsD (tSlot 2) (tConsD (tLcV (iAnyD (tCallD sp_met_from (tConsD (tSlot 1) (tNilD)))) (gNameD 10) (tTst (tBin (rInY false) (tSlot 10) (tSlot 3))) (tSlot 10) [10]) (tNilD))))) (gNameD 4))
  (sSeqD (sPar3 5 6 7 (tConsD (tLstR (tConsD (tCD (.int 0)) (tNilD))) (tConsD (tDispR [(tBin rIxX (tSlot 4) (tCD (.int 0)), tCD (.int 0))]) (tConsD (tLstR (tNilD)) (tNilD)))))
  (sSeqD (sWhileD (tTst (tBin (rCmpI fLt) (tCallD rLenD (tConsD (tSlot 7) (tNilD))) (tCallD rLenD (tConsD (tSlot 5) (tNilD))))) (sSeqD (sAsgD (tLstR (tNilD)) (gNameD 8))
  (sSeqD (sForD (iAnyD (tBin rIxX (tSlot 1) (tBin rIxX (tSlot 5) (tCallD rLenD (tConsD (tSlot 7) (tNilD)))))) (gNameD 9) (sSeqD (sIfD (tAndD (tTst (tBin (rInY false) (tSlot 9) (tSlot 4))) (tTst (tBin (rInY true) (tBin rIxX (tSlot 4) (tSlot 9)) (tSlot 6)))) (sSeqD (sAsgD (tCallD rLenD (tConsD (tSlot 5) (tNilD))) (gSubX (tSlot 6) (tBin rIxX (tSlot 4) (tSlot 9))))
  (sDropD (tMethL rAppD (tSlot 5) (tConsD (tSlot 9) (tNilD))))) (sNextD))
  (sDropD (tMethL rAppD (tSlot 8) (tConsD (tIfD (tTst (tBin (rInY false) (tSlot 9) (tSlot 4))) (tBin rIxX (tSlot 6) (tBin rIxX (tSlot 4) (tSlot 9))) (tCD .non)) (tNilD))))))
  (sDropD (tMethL rAppD (tSlot 7) (tConsD (tCallD rTupleD (tConsD (tSlot 8) (tNilD))) (tNilD)))))))
  (sRetD (tTupD (tConsD (tSlot 0) (tConsD (tCallD rTupleD (tConsD (tSlot 7) (tNilD))) (tConsD (tCallD rTupleD (tConsD (tLcV (iAnyD (tSlot 5)) (gNameD 10) (tYesD) (tCallD rBoolD (tConsD (tBin rIxX (tSlot 2) (tSlot 10)) (tNilD))) [10]) (tNilD))) (tNilD))))))))))
def rd_smallest (sp_shrunk : SpD) : TSD :=
  sRetD (tCallD sp_shrunk (tConsD (tBin rIxX (tSlot 0) (tCD (.int 0))) (tConsD (tBin rIxX (tSlot 0) (tCD (.int 1))) (tConsD (tBin rIxX (tSlot 0) (tCD (.int 2))) (tNilD)))))
def rd_joint (w : World) (sp_next_of : SpD) (sp_is_in : SpD) (sp_ends_at : SpD) (sp_shrunk : SpD) : TSD :=
  sSeqD (sAsgD (tTupD (tConsD (tDisp1T w (tTupD (tConsD (tCD (.int 0)) (tConsD (tCD (.int 0)) (tNilD)))) (tCD (.int 0))) (tConsD (tLstR (tConsD (tTupD (tConsD (tCD (.int 0)) (tConsD (tCD (.int 0)) (tNilD)))) (tNilD))) (tConsD (tLstR (tNilD)) (tConsD (tLstR (tNilD)) (tNilD)))))) (gTupD 4 (gConsD (gNameD 3) (gConsD (gNameD 4) (gConsD (gNameD 5) (gConsD (gNameD 6) (gNilD)))))))
  (sSeqD (sWhileD (tTst (tBin (rCmpI fLt) (tCallD (rLenW w) (tConsD (tSlot 5) (tNilD))) (tCallD (rLenW w) (tConsD (tSlot 4) (tNilD))))) (sSeqD (sAsgD (tBin (rIxW w) (tSlot 4) (tCallD (rLenW w) (tConsD (tSlot 5) (tNilD)))) (gTupD 2 (gConsD (gNameD 7) (gConsD (gNameD 8) (gNilD)))))
  (sSeqD (sAsgD (tLstR (tNilD)) (gNameD 9))
  (sSeqD (sForD (iRng1D (tConsD (tBin (rIxW w) (tSlot 0) (tCD (.int 0))) (tNilD))) (gNameD 10) (sSeqD (sAsgD (tTupD (tConsD (tCallD sp_next_of (tConsD (tSlot 0) (tConsD (tSlot 7) (tConsD (tSlot 10) (tNilD))))) (tConsD (tCallD sp_next_of (tConsD (tSlot 1) (tConsD (tSlot 8) (tConsD (tSlot 10) (tNilD))))) (tNilD)))) (gNameD 11))
  (sSeqD (sIfD (tAndD (tTst (tBin rNeD (tSlot 11) (tCD (.tup [.non, .non])))) (tTst (tBin (rInW w true) (tSlot 11) (tSlot 3)))) (sSeqD (sAsgD (tCallD (rLenW w) (tConsD (tSlot 4) (tNilD))) (gSubW w (tSlot 3) (tSlot 11)))
  (sDropD (tMethL rAppD (tSlot 4) (tConsD (tSlot 11) (tNilD))))) (sNextD))
  (sDropD (tMethL rAppD (tSlot 9) (tConsD (tMethW w (rGetW w) (tSlot 3) (tConsD (tSlot 11) (tNilD))) (tNilD)))))))
  (sSeqD (sCvD (sDropD (tMethL rAppD (tSlot 5) (tConsD (tSlot 9) (tNilD)))))
  (sDropD (tMethL rAppD (tSlot 6) (tConsD (tCallD sp_is_in (tConsD (tSlot 2) (tConsD (tCallD sp_ends_at (tConsD (tSlot 0) (tConsD (tSlot 7) (tNilD)))) (tConsD (tCallD sp_ends_at (tConsD (tSlot 1) (tConsD (tSlot 8) (tNilD)))) (tNilD))))) (tNilD)))))))))
  (sCvD (sRetD (tCallD sp_shrunk (tConsD (tBin (rIxW w) (tSlot 0) (tCD (.int 0))) (tConsD (tSlot 5) (tConsD (tSlot 6) (tNilD))))))))
def rd_is_in : TSD :=
  sSeqD (sIfD (tTst (tBin rEqD (tSlot 0) (tCD (.str "both")))) (sRetD (tAndV (tSlot 1) (tSlot 2))) (sNextD))
  (sRetD (tIfD (tTst (tBin rEqD (tSlot 0) (tCD (.str "either")))) (tOrV (tSlot 1) (tSlot 2)) (tAndV (tSlot 1) (tNotV (tSlot 2)))))
def rd_both (sp_joint : SpD) : TSD :=
  sRetD (tCallD sp_joint (tConsD (tSlot 0) (tConsD (tSlot 1) (tConsD (tCD (.str "both")) (tNilD)))))
def rd_either (sp_joint : SpD) : TSD :=
  sRetD (tCallD sp_joint (tConsD (tSlot 0) (tConsD (tSlot 1) (tConsD (tCD (.str "either")) (tNilD)))))
def rd_less (sp_joint : SpD) : TSD :=
  sRetD (tCallD sp_joint (tConsD (tSlot 0) (tConsD (tSlot 1) (tConsD (tCD (.str "less")) (tNilD)))))
def rd_apart (w : World) (sp_ends_at : SpD) (sp_next_of : SpD) : TSD :=
  sSeqD (sPar3 2 3 4 (tConsD (tDisp1T w (tTupD (tConsD (tCD (.int 0)) (tConsD (tCD (.int 0)) (tNilD)))) (tCD (.bl true))) (tConsD (tLstR (tConsD (tTupD (tConsD (tCD (.str "")) (tConsD (tCD (.int 0)) (tConsD (tCD (.int 0)) (tNilD))))) (tNilD))) (tConsD (tCD (.int 0)) (tNilD)))))
  (sSeqD (sWhileD (tTst (tBin (rCmpI fLt) (tSlot 4) (tCallD (rLenW w) (tConsD (tSlot 3) (tNilD))))) (sSeqD (sAsgD (tBin (rIxW w) (tSlot 3) (tSlot 4)) (gTupD 3 (gConsD (gNameD 5) (gConsD (gNameD 6) (gConsD (gNameD 7) (gNilD))))))
  (sSeqD (sIfD (tTst (tBin rNeD (tCallD sp_ends_at (tConsD (tSlot 0) (tConsD (tSlot 6) (tNilD)))) (tCallD sp_ends_at (tConsD (tSlot 1) (tConsD (tSlot 7) (tNilD)))))) (sRetD (tSlot 5)) (sNextD))
  (sSeqD (sForD (iAnyD (tSlD (tCD (.str "abc")) (oNone) (oSome (tBin (rIxW w) (tSlot 0) (tCD (.int 0)))))) (gNameD 8) (sSeqD (sAsgD (tMethS rSixD (tCD (.str "abc")) (tSlot 8)) (gNameD 9))
  (sSeqD (sAsgD (tTupD (tConsD (tCallD sp_next_of (tConsD (tSlot 0) (tConsD (tSlot 6) (tConsD (tSlot 9) (tNilD))))) (tConsD (tCallD sp_next_of (tConsD (tSlot 1) (tConsD (tSlot 7) (tConsD (tSlot 9) (tNilD))))) (tNilD)))) (gNameD 10))
  (sIfD (tAndD (tTst (tBin rNeD (tSlot 10) (tCD (.tup [.non, .non])))) (tTst (tBin (rInW w true) (tSlot 10) (tSlot 2)))) (sSeqD (sAsgD (tCD (.bl true)) (gSubW w (tSlot 2) (tSlot 10)))
  (sDropD (tMethL rAppD (tSlot 3) (tConsD (tBin rAddD (tTupD (tConsD (tBin rAddD (tSlot 5) (tSlot 8)) (tNilD))) (tSlot 10)) (tNilD))))) (sNextD)))))
  (sAsgD (tBin rAddD (tSlot 4) (tCD (.int 1))) (gNameD 4))))))
  (sRetD (tCD .non)))
end PM
end

section
/-! PN2: rows and ends of machines as tuples or lists; dicts of states; met_from. -/
local macro_rules | `(tactic| walk_at "rdx") => `(tactic| simp only [PD.pad, PD.gt_z, PD.gt_s, PD.st_z, PD.st_s, PD.sNextD, PD.sSeqD, PD.sBreakD, PD.sContD, PD.sDropD, PD.sRetD, PD.sRetND, PD.sIfD, PD.sNeverD, PD.sAsgD, PD.sPar2, PD.sPar3, PD.gNameD, PD.gNilD, PD.gConsD, PD.gTupD, PD.gSubD, PD.tNilD, PD.tConsD, PD.tTupD, PD.tLstV, PD.tLstR, PD.tBin, PD.tTst, PD.tAndD, PD.tOrD, PD.tNotD, PD.tIfD, PD.tAndV, PD.tOrV, PD.tNotV, PD.tUnD, PD.rNeg, PD.tCallD, PD.tSlot, PD.tCD, PD.tChainD, PD.rIsN, PD.rNotN, PD.rIsiD, PD.isi_non, PD.isi_bl, PD.isi_int, PD.isi_str, PD.isi_tup, PD.isi_lst, PD.isi_dic, PD.Ty.name, PD.rCmpI, PD.fLt, PD.fLe, PD.fGt, PD.fGe, PD.rAddD, PD.rSubD, PD.rFdivD, PD.rModD, PD.rPowD, PD.rMulD, PD.rAddR, PD.rMulR, PD.asSeq, PD.asLst, PD.rLenD, PD.rTupleD, PD.rListV, PD.rListR, PD.rIntD, PD.rBoolD, PD.rAbsD, PD.rIxD, PD.oNone, PD.oSome, PD.tSlD, PD.rSlD, PD.tRevTD, PD.rEqD, PD.rNeD, PD.nrm_non, PD.nrm_bl, PD.nrm_int, PD.nrm_str, PD.nrm_tup, PD.nrm_lst, PD.nrm_dic, PD.nrm_ref, PD.iSeqD, PD.iRng1D, PD.iRng2D, PD.sForD, PD.tLcV, PD.tLcR, PD.tYesD, PD.wipeD, PD.tMethL, PD.rAppD, PD.isRefL, PD.tDicV, PD.keyOf, PD.asDic, PD.srcD, PD.iAnyD, PD.iZipD, PD.iEnumD, PD.tDcV, PD.tDicR, PD.gSubX, PD.rSetX, PD.rIxX, PD.rInD, PD.rInX, PD.rInY, PD.rSumD, PD.tRevLD, PD.tRevX, PD.rSixD, PD.rJoinD, PD.tMethS, PD.rLixD, PD.rPopD, PD.rExtD, PD.tMethA, PD.rSetD, PD.rReprD, PD.eqk_int, PD.eqd_int, PD.eqk_str, PD.eqd_str, PD.eqk_lst0, PD.eqd_lst0, PD.eqk_tup0, PD.eqd_tup0, PD.tdOf, PD.keyT, PD.nksOf, PD.nkOf, PD.rInW, PD.rIxW, PD.rSetW, PD.gSubW, PD.rLenW, PD.rGetW, PD.rGetAt, PD.tMethW, PD.rSetdW, PD.tDispR, PD.tPairsD, PD.putAll, PD.tDisp1T, PD.gSeqD, PD.rListW, PD.tLenSetD, ↓PM.asSeq_sq, ↓PM.asDic_sq, ↓PM.srcD_sq, ↓PM.tdOf_sq, ↓PM.rIxD_sq, Option.map_some, Option.bind_some, PD.spFn, PD.spDraw, reduceIte, true_and, and_true, or_false, false_or, Bool.not_true, Bool.not_false, Bool.false_eq_true, List.length_cons, List.length_nil, List.set_cons_zero, List.set_cons_succ, PD.HD.set_same, PD.HD.tick_hp, PD.HD.tick_c, PD.HD.tick_dk, PD.HD.set_c, PD.HD.set_dk])
local macro_rules | `(tactic| simp_all only [$xs,*]) => `(tactic| simp only [PD.pad, PD.gt_z, PD.gt_s, PD.st_z, PD.st_s, PD.sNextD, PD.sSeqD, PD.sBreakD, PD.sContD, PD.sDropD, PD.sRetD, PD.sRetND, PD.sIfD, PD.sNeverD, PD.sAsgD, PD.sPar2, PD.sPar3, PD.gNameD, PD.gNilD, PD.gConsD, PD.gTupD, PD.gSubD, PD.tNilD, PD.tConsD, PD.tTupD, PD.tLstV, PD.tLstR, PD.tBin, PD.tTst, PD.tAndD, PD.tOrD, PD.tNotD, PD.tIfD, PD.tAndV, PD.tOrV, PD.tNotV, PD.tUnD, PD.rNeg, PD.tCallD, PD.tSlot, PD.tCD, PD.tChainD, PD.rIsN, PD.rNotN, PD.rIsiD, PD.isi_non, PD.isi_bl, PD.isi_int, PD.isi_str, PD.isi_tup, PD.isi_lst, PD.isi_dic, PD.Ty.name, PD.rCmpI, PD.fLt, PD.fLe, PD.fGt, PD.fGe, PD.rAddD, PD.rSubD, PD.rFdivD, PD.rModD, PD.rPowD, PD.rMulD, PD.rAddR, PD.rMulR, PD.asSeq, PD.asLst, PD.rLenD, PD.rTupleD, PD.rListV, PD.rListR, PD.rIntD, PD.rBoolD, PD.rAbsD, PD.rIxD, PD.oNone, PD.oSome, PD.tSlD, PD.rSlD, PD.tRevTD, PD.rEqD, PD.rNeD, PD.nrm_non, PD.nrm_bl, PD.nrm_int, PD.nrm_str, PD.nrm_tup, PD.nrm_lst, PD.nrm_dic, PD.nrm_ref, PD.iSeqD, PD.iRng1D, PD.iRng2D, PD.sForD, PD.tLcV, PD.tLcR, PD.tYesD, PD.wipeD, PD.tMethL, PD.rAppD, PD.isRefL, PD.tDicV, PD.keyOf, PD.asDic, PD.srcD, PD.iAnyD, PD.iZipD, PD.iEnumD, PD.tDcV, PD.tDicR, PD.gSubX, PD.rSetX, PD.rIxX, PD.rInD, PD.rInX, PD.rInY, PD.rSumD, PD.tRevLD, PD.tRevX, PD.rSixD, PD.rJoinD, PD.tMethS, PD.rLixD, PD.rPopD, PD.rExtD, PD.tMethA, PD.rSetD, PD.rReprD, PD.eqk_int, PD.eqd_int, PD.eqk_str, PD.eqd_str, PD.eqk_lst0, PD.eqd_lst0, PD.eqk_tup0, PD.eqd_tup0, PD.tdOf, PD.keyT, PD.nksOf, PD.nkOf, PD.rInW, PD.rIxW, PD.rSetW, PD.gSubW, PD.rLenW, PD.rGetW, PD.rGetAt, PD.tMethW, PD.rSetdW, PD.tDispR, PD.tPairsD, PD.putAll, PD.tDisp1T, PD.gSeqD, PD.rListW, PD.tLenSetD, ↓PM.asSeq_sq, ↓PM.asDic_sq, ↓PM.srcD_sq, ↓PM.tdOf_sq, ↓PM.rIxD_sq, Option.map_some, Option.bind_some, PD.spFn, PD.spDraw, reduceIte, true_and, and_true, or_false, false_or, Bool.not_true, Bool.not_false, Bool.false_eq_true, List.length_cons, List.length_nil, List.set_cons_zero, List.set_cons_succ, PD.HD.set_same, PD.HD.tick_hp, PD.HD.tick_c, PD.HD.tick_dk, PD.HD.set_c, PD.HD.set_dk, $xs,*])
namespace PM
open PySem PySem.Spec PyProof.Rows PD
abbrev natD (s : Nat) : D := .int (s : Int)
def rowsD (b : Bool) (M : Mch) : D := seqD b (M.rows.map fun r => seqD b (r.map encC))
def endsD (b : Bool) (M : Mch) : D := seqD b (M.ends.map .bl)
theorem row_at {M : Mch} (ok : M.Ok) (b : Bool) {s : Nat} (h : s < M.rows.length) : ∃ r, M.rows[s]? = some r ∧ r.length = M.L ∧ L2.atI (M.rows.map fun r => seqD b (r.map encC)) (s : Int) = some (seqD b (r.map encC)) ∧ ∀ c, (r[c]?).bind id = M.nx s c := by
  obtain ⟨r, h1, h2, h3⟩ := M.row ok h
  refine ⟨r, h1, h2, atI_map (f := fun r => seqD b (r.map encC)) h1, fun c => ?_⟩
  unfold Mch.nx
  rw [h1]
  rfl
/-- a dict of states -/
def dnat (f : Nat → D) (ls : List Nat) : List (D × D) := ls.map fun s => (natD s, f s)
theorem getK_nat (f : Nat → D) (t : Nat) : ∀ ls : List Nat, getK (dnat f ls) (.inl (t : Int)) = if t ∈ ls then some (f t) else none
  | [] => rfl
  | x :: ls => by
    have ih := getK_nat f t ls
    show (if keyOf (natD x) = some (.inl (t : Int)) then some (f x) else getK (dnat f ls) _) = _
    by_cases e : x = t
    · subst e
      rw [if_pos (show keyOf (natD x) = some (.inl (x : Int)) from rfl), if_pos List.mem_cons_self]
    · have ne : ¬ keyOf (natD x) = some (.inl (t : Int)) := fun q => e (by
        have q' : (some (Sum.inl (x : Int)) : Option L2.Key) = some (Sum.inl (t : Int)) := q
        have := Sum.inl.inj (Option.some.inj q')
        omega)
      rw [if_neg ne, ih]
      by_cases h : t ∈ ls
      · rw [if_pos h, if_pos (List.mem_cons_of_mem _ h)]
      · rw [if_neg h, if_neg fun z => (List.mem_cons.mp z).elim (fun z => e z.symm) h]
theorem hasK_nat (f : Nat → D) (t : Nat) (ls : List Nat) : hasK (dnat f ls) (.inl (t : Int)) = decide (t ∈ ls) := by
  unfold hasK
  rw [getK_nat]
  by_cases h : t ∈ ls
  · rw [if_pos h]; simp [h]
  · rw [if_neg h]; simp [h]
theorem putD_new (f : Nat → D) {t : Nat} {ls : List Nat} (h : t ∉ ls) : putD (dnat f ls) (.inl (t : Int)) (f t) = dnat f (ls ++ [t]) := by
  unfold putD
  rw [hasK_nat]
  simp only [h, decide_false, Bool.false_eq_true, if_false]
  unfold dnat
  rw [List.map_append]
  rfl
theorem dnat_len (f : Nat → D) (ls : List Nat) : (dnat f ls).length = ls.length := by simp [dnat]
theorem encC_get {r : List (Option Nat)} {i : Nat} {d : D} (h : (r.map encC)[i]? = some d) : ∃ c, r[i]? = some c ∧ d = encC c := by
  rw [List.getElem?_map] at h
  obtain ⟨c, h1, rfl⟩ := Option.map_eq_some_iff.mp h
  exact ⟨c, h1, rfl⟩
theorem atI_nat' {f : Nat → D} {ls : List Nat} {i x : Nat} (h : ls[i]? = some x) : L2.atI (ls.map f) (i : Int) = some (f x) := atI_map h
/-! ### met_from -/
def spMet : SpD := fun ds S Q => ∃ (M : Mch) (b : Bool), ds = [rowsD b M] ∧ M.Ok ∧ ∀ ls : List Nat, ls.Nodup → (∀ s, s ∈ ls ↔ M.reach s) → Q (.lst (ls.map natD)) S
theorem met_len (ds : List D) (S : HD) (Q : QD) (h : spMet ds S Q) : ds.length = 1 := by
  obtain ⟨_, _, rfl, _⟩ := h
  rfl
structure MetI (M : Mch) (fs : List Nat) : Prop where
  nd : fs.Nodup
  z : 0 ∈ fs
  re : ∀ s ∈ fs, M.reach s
  lt : ∀ s ∈ fs, s < M.rows.length
theorem MetI.add {M : Mch} (ok : M.Ok) {fs : List Nat} (I : MetI M fs) {s c t : Nat} (hs : s ∈ fs) (h : M.nx s c = some t) (hn : t ∉ fs) : MetI M (fs ++ [t]) where
  nd := by
    rw [List.nodup_append]
    exact ⟨I.nd, by simp, fun a ha b hb e => hn (by rw [List.mem_singleton.mp hb] at e; exact e ▸ ha)⟩
  z := List.mem_append_left _ I.z
  re := fun x hx => (List.mem_append.mp hx).elim (I.re x) fun e => by rw [List.mem_singleton.mp e]; exact reach_nx (I.re s hs) h
  lt := fun x hx => (List.mem_append.mp hx).elim (I.lt x) fun e => by rw [List.mem_singleton.mp e]; exact M.nx_lt ok h
theorem met_ok (ds : List D) (S : HD) (Q : QD) (h : spMet ds S Q) : rd_met_from (ends Q) (pad 5 ds) S := by
  obtain ⟨M, b, rfl, ok, q⟩ := h
  have n4 := ok.n4
  unfold rd_met_from
  refine seq_step fun N1 hN1 => ?_
  walk_at "rdx"
  refine ⟨by decide, fun p hp => ⟨by decide, fun r hr => hN1 _ _ ?_⟩⟩
  clear hN1 N1
  have ne : r ≠ p := fun e => by rw [e, HD.set_same] at hr; cases hr
  have hr0 : S.hp r = none := by rw [HD.set_ne ne] at hr; exact hr
  refine seq_step fun N1 hN1 => ?_
  let I : Nat → SD → HD → Prop := fun m σ S' => ∃ (fs : List Nat) (at' : Nat) (v4 : Option D), σ = [some (rowsD b M), some (.ref p), some (.ref r), some (natD at'), v4] ∧ S'.hp p = some (.lst (fs.map natD)) ∧ S'.hp r = some (.dic (dnat (fun _ => .bl true) fs)) ∧ Up 0 S S' ∧
    MetI M fs ∧ at' ≤ fs.length ∧ (∀ i s c t, i < at' → fs[i]? = some s → M.nx s c = some t → t ∈ fs) ∧ m = M.rows.length - at'
  refine while_go I (n := M.rows.length) (fun m σ S' N ⟨fs, at', v4, e1, e2, e3, u, J, hat, hcl, em⟩ k => ?_) ⟨[0], 0, none, rfl, ?_, ?_, ((Up.refl S).new hp).new hr, ⟨by simp, by simp, fun s hs => by rw [List.mem_singleton.mp hs]; exact reach_0 M, fun s hs => by rw [List.mem_singleton.mp hs]; exact ok.n1⟩, Nat.zero_le _, fun i s c t hi => absurd hi (Nat.not_lt_zero _), rfl⟩
  · rw [HD.set_ne (Ne.symm ne), HD.set_same]; rfl
  · rw [HD.set_same]; rfl
  · subst e1
    generalize hb1 : (iAnyD _ : TID) = ti
    generalize hb2 : (sIfD _ _ _ : TSD) = tb
    walk_at "rdx"
    simp only [e2, List.length_map]
    by_cases hlt : at' < fs.length
    · have hx : fs[at']? = some fs[at'] := by simp [hlt]
      have hs := List.getElem_mem hlt
      have hsl := J.lt _ hs
      obtain ⟨row, r1, r2, r3, r4⟩ := row_at ok b hsl
      have e4 := atI_nat' (f := natD) hx
      have hl' : decide (((at' : Nat) : Int) < ((fs.length : Nat) : Int)) = true := decide_eq_true (by omega)
      simp only [hl', if_true]
      subst hb1 hb2
      unfold rowsD
      simp_all only [e2, e4, r3]
      refine any_sq fun hz => ?_
      refine loopD_go (fun i σ S2 => ∃ (gs : List Nat) (v4 : Option D), σ = [some (rowsD b M), some (.ref p), some (.ref r), some (natD at'), v4] ∧ S2.hp p = some (.lst ((fs ++ gs).map natD)) ∧ S2.hp r = some (.dic (dnat (fun _ => .bl true) (fs ++ gs))) ∧ Up 0 S S2 ∧ MetI M (fs ++ gs) ∧ ∀ c t, c < i → M.nx fs[at'] c = some t → t ∈ fs ++ gs)
        ⟨[], v4, rfl, by rw [List.append_nil]; exact e2, by rw [List.append_nil]; exact e3, u, by rw [List.append_nil]; exact J, fun c t hc => absurd hc (Nat.not_lt_zero _)⟩
        (fun i d σ S2 N2 hi ⟨gs, v4, f1, f2, f3, f4, f5, f6⟩ k2 => ⟨trivial, ?_⟩) fun σ S2 ⟨gs, v4, f1, f2, f3, f4, f5, f6⟩ => ⟨trivial, ?_⟩
      · subst f1
        obtain ⟨c, hc, rfl⟩ := encC_get hi
        have hnx : M.nx fs[at'] i = c := by rw [← r4, hc]; rfl
        have keepI : (∀ t, c = some t → t ∈ fs ++ gs) → ∀ c' t, c' < i + 1 → M.nx fs[at'] c' = some t → t ∈ fs ++ gs := fun ht c' t hc' hn => by
          by_cases hci : c' = i
          · subst hci
            rw [hnx] at hn
            exact ht t hn
          · exact f6 c' t (by omega) hn
        cases c with
        | none =>
          walk_at "rdx"
          simp only [encC, isN, Bool.not_true, Bool.false_eq_true, if_false]
          exact k2 _ _ ⟨gs, _, rfl, f2, f3, f4, f5, keepI fun t h => (by cases h)⟩
        | some t =>
          walk_at "rdx"
          simp only [encC, isN, Bool.not_false, if_true, f3, hasK_nat]
          by_cases ht : t ∈ fs ++ gs
          · simp only [ht, decide_true, Bool.not_true, Bool.false_eq_true, if_false]
            exact k2 _ _ ⟨gs, _, rfl, f2, f3, f4, f5, keepI fun t' h => by cases h; exact ht⟩
          · simp only [ht, decide_false, Bool.not_false, if_true]
            have J2 := MetI.add ok f5 (s := fs[at']) (List.mem_append_left _ hs) hnx ht
            have hl2 := lt_len f5.nd f5.lt
            have f2' : (S2.set r (.dic (putD (dnat (fun _ => .bl true) (fs ++ gs)) (.inl (t : Int)) (.bl true)))).hp p = some (.lst ((fs ++ gs).map natD)) := by rw [HD.set_ne (Ne.symm ne)]; exact f2
            simp only [dnat_len, f2', List.length_map]
            refine ⟨by omega, ⟨_, rfl⟩, by omega, k2 _ _ ⟨gs ++ [t], _, rfl, ?_, ?_, (f4.set hr0).set hp, ?_, ?_⟩⟩
            · rw [HD.set_same]; simp
            · rw [HD.set_ne ne, HD.set_same, putD_new _ ht, List.append_assoc]
            · rw [← List.append_assoc]; exact J2
            · intro c' t' hc' hn
              by_cases hci : c' = i
              · subst hci
                rw [hnx] at hn
                cases hn
                simp
              · rw [← List.append_assoc]; exact List.mem_append_left _ (f6 c' t' (by omega) hn)
      · subst f1
        walk_at "rdx"
        refine k (M.rows.length - (at' + 1)) _ _ ?_ ⟨fs ++ gs, at' + 1, _, rfl, f2, f3, f4, f5, by simp; omega, ?_, rfl⟩
        · have hl2 := lt_len J.nd J.lt
          omega
        · intro i s c t hi hs' hn
          by_cases hia : i < at'
          · rw [List.getElem?_append_left (by omega)] at hs'
            exact List.mem_append_left _ (hcl i s c t hia hs' hn)
          · have : i = at' := by omega
            subst this
            rw [List.getElem?_append_left hlt, hx] at hs'
            cases hs'
            have hc := nx_c ok hn
            exact f6 c t (by rw [List.length_map]; omega) hn
    · have hl' : decide (((at' : Nat) : Int) < ((fs.length : Nat) : Int)) = false := decide_eq_false (by omega)
      simp only [hl', Bool.false_eq_true, if_false]
      refine hN1 _ _ ?_
      walk_at "rdx"
      refine fin.frz e2 ⟨fun a o h => ?_, u.c, u.dk.symm⟩ (q fs J.nd fun s => ⟨J.re s, fun ⟨w, hw⟩ => ?_⟩)
      · have ne : a ≠ p := fun e => by rw [e, hp] at h; cases h
        simp only [HD.del, ne, if_false]
        exact u.hp a o h
      · refine reach_in (P := fun s => s ∈ fs) J.z (fun s c t hs hn => ?_) w 0 s J.z hw
        obtain ⟨i, hi⟩ := List.mem_iff_getElem?.mp hs
        have := (List.getElem?_eq_some_iff.mp hi).1
        exact hcl i s c t (by omega) hi hn
end PM
end

section
local macro_rules | `(tactic| walk_at "rdx") => `(tactic| simp only [PD.pad, PD.gt_z, PD.gt_s, PD.st_z, PD.st_s, PD.sNextD, PD.sSeqD, PD.sBreakD, PD.sContD, PD.sDropD, PD.sRetD, PD.sRetND, PD.sIfD, PD.sNeverD, PD.sAsgD, PD.sPar2, PD.sPar3, PD.gNameD, PD.gNilD, PD.gConsD, PD.gTupD, PD.gSubD, PD.tNilD, PD.tConsD, PD.tTupD, PD.tLstV, PD.tLstR, PD.tBin, PD.tTst, PD.tAndD, PD.tOrD, PD.tNotD, PD.tIfD, PD.tAndV, PD.tOrV, PD.tNotV, PD.tUnD, PD.rNeg, PD.tCallD, PD.tSlot, PD.tCD, PD.tChainD, PD.rIsN, PD.rNotN, PD.rIsiD, PD.isi_non, PD.isi_bl, PD.isi_int, PD.isi_str, PD.isi_tup, PD.isi_lst, PD.isi_dic, PD.Ty.name, PD.rCmpI, PD.fLt, PD.fLe, PD.fGt, PD.fGe, PD.rAddD, PD.rSubD, PD.rFdivD, PD.rModD, PD.rPowD, PD.rMulD, PD.rAddR, PD.rMulR, PD.asSeq, PD.asLst, PD.rLenD, PD.rTupleD, PD.rListV, PD.rListR, PD.rIntD, PD.rBoolD, PD.rAbsD, PD.rIxD, PD.oNone, PD.oSome, PD.tSlD, PD.rSlD, PD.tRevTD, PD.rEqD, PD.rNeD, PD.nrm_non, PD.nrm_bl, PD.nrm_int, PD.nrm_str, PD.nrm_tup, PD.nrm_lst, PD.nrm_dic, PD.nrm_ref, PD.iSeqD, PD.iRng1D, PD.iRng2D, PD.sForD, PD.tLcV, PD.tLcR, PD.tYesD, PD.wipeD, PD.tMethL, PD.rAppD, PD.isRefL, PD.tDicV, PD.keyOf, PD.asDic, PD.srcD, PD.iAnyD, PD.iZipD, PD.iEnumD, PD.tDcV, PD.tDicR, PD.gSubX, PD.rSetX, PD.rIxX, PD.rInD, PD.rInX, PD.rInY, PD.rSumD, PD.tRevLD, PD.tRevX, PD.rSixD, PD.rJoinD, PD.tMethS, PD.rLixD, PD.rPopD, PD.rExtD, PD.tMethA, PD.rSetD, PD.rReprD, PD.eqk_int, PD.eqd_int, PD.eqk_str, PD.eqd_str, PD.eqk_lst0, PD.eqd_lst0, PD.eqk_tup0, PD.eqd_tup0, PD.tdOf, PD.keyT, PD.nksOf, PD.nkOf, PD.rInW, PD.rIxW, PD.rSetW, PD.gSubW, PD.rLenW, PD.rGetW, PD.rGetAt, PD.tMethW, PD.rSetdW, PD.tDispR, PD.tPairsD, PD.putAll, PD.tDisp1T, PD.gSeqD, PD.rListW, PD.tLenSetD, ↓PM.asSeq_sq, ↓PM.asDic_sq, ↓PM.srcD_sq, ↓PM.tdOf_sq, ↓PM.rIxD_sq, Option.map_some, Option.bind_some, PD.spFn, PD.spDraw, reduceIte, true_and, and_true, or_false, false_or, Bool.not_true, Bool.not_false, Bool.false_eq_true, List.length_cons, List.length_nil, List.set_cons_zero, List.set_cons_succ, PD.HD.set_same, PD.HD.tick_hp, PD.HD.tick_c, PD.HD.tick_dk, PD.HD.set_c, PD.HD.set_dk])
local macro_rules | `(tactic| simp_all only [$xs,*]) => `(tactic| simp only [PD.pad, PD.gt_z, PD.gt_s, PD.st_z, PD.st_s, PD.sNextD, PD.sSeqD, PD.sBreakD, PD.sContD, PD.sDropD, PD.sRetD, PD.sRetND, PD.sIfD, PD.sNeverD, PD.sAsgD, PD.sPar2, PD.sPar3, PD.gNameD, PD.gNilD, PD.gConsD, PD.gTupD, PD.gSubD, PD.tNilD, PD.tConsD, PD.tTupD, PD.tLstV, PD.tLstR, PD.tBin, PD.tTst, PD.tAndD, PD.tOrD, PD.tNotD, PD.tIfD, PD.tAndV, PD.tOrV, PD.tNotV, PD.tUnD, PD.rNeg, PD.tCallD, PD.tSlot, PD.tCD, PD.tChainD, PD.rIsN, PD.rNotN, PD.rIsiD, PD.isi_non, PD.isi_bl, PD.isi_int, PD.isi_str, PD.isi_tup, PD.isi_lst, PD.isi_dic, PD.Ty.name, PD.rCmpI, PD.fLt, PD.fLe, PD.fGt, PD.fGe, PD.rAddD, PD.rSubD, PD.rFdivD, PD.rModD, PD.rPowD, PD.rMulD, PD.rAddR, PD.rMulR, PD.asSeq, PD.asLst, PD.rLenD, PD.rTupleD, PD.rListV, PD.rListR, PD.rIntD, PD.rBoolD, PD.rAbsD, PD.rIxD, PD.oNone, PD.oSome, PD.tSlD, PD.rSlD, PD.tRevTD, PD.rEqD, PD.rNeD, PD.nrm_non, PD.nrm_bl, PD.nrm_int, PD.nrm_str, PD.nrm_tup, PD.nrm_lst, PD.nrm_dic, PD.nrm_ref, PD.iSeqD, PD.iRng1D, PD.iRng2D, PD.sForD, PD.tLcV, PD.tLcR, PD.tYesD, PD.wipeD, PD.tMethL, PD.rAppD, PD.isRefL, PD.tDicV, PD.keyOf, PD.asDic, PD.srcD, PD.iAnyD, PD.iZipD, PD.iEnumD, PD.tDcV, PD.tDicR, PD.gSubX, PD.rSetX, PD.rIxX, PD.rInD, PD.rInX, PD.rInY, PD.rSumD, PD.tRevLD, PD.tRevX, PD.rSixD, PD.rJoinD, PD.tMethS, PD.rLixD, PD.rPopD, PD.rExtD, PD.tMethA, PD.rSetD, PD.rReprD, PD.eqk_int, PD.eqd_int, PD.eqk_str, PD.eqd_str, PD.eqk_lst0, PD.eqd_lst0, PD.eqk_tup0, PD.eqd_tup0, PD.tdOf, PD.keyT, PD.nksOf, PD.nkOf, PD.rInW, PD.rIxW, PD.rSetW, PD.gSubW, PD.rLenW, PD.rGetW, PD.rGetAt, PD.tMethW, PD.rSetdW, PD.tDispR, PD.tPairsD, PD.putAll, PD.tDisp1T, PD.gSeqD, PD.rListW, PD.tLenSetD, ↓PM.asSeq_sq, ↓PM.asDic_sq, ↓PM.srcD_sq, ↓PM.tdOf_sq, ↓PM.rIxD_sq, Option.map_some, Option.bind_some, PD.spFn, PD.spDraw, reduceIte, true_and, and_true, or_false, false_or, Bool.not_true, Bool.not_false, Bool.false_eq_true, List.length_cons, List.length_nil, List.set_cons_zero, List.set_cons_succ, PD.HD.set_same, PD.HD.tick_hp, PD.HD.tick_c, PD.HD.tick_dk, PD.HD.set_c, PD.HD.set_dk, $xs,*])
/-! PN3: living. -/
namespace PM
open PySem PySem.Spec PyProof.Rows PD
theorem fin_lt {M : Mch} (ok : M.Ok) {s : Nat} (h : M.fin s = true) : s < M.rows.length := by
  rw [← ok.en]
  unfold Mch.fin at h
  apply Nat.lt_of_not_le
  intro z
  rw [List.getElem?_eq_none z] at h
  cases h
/-- lists held in a list -/
structure Bef (S0 S' : HD) (ps : List Addr) (B : Nat → List Nat) : Prop where
  at' : ∀ j p, ps[j]? = some p → S'.hp p = some (.lst ((B j).map natD))
  nd : ps.Nodup
  fr : ∀ p ∈ ps, S0.hp p = none
theorem Bef.keep {S0 S' S2 : HD} {ps : List Addr} {B : Nat → List Nat} (b : Bef S0 S' ps B) (h : ∀ p o, S'.hp p = some o → S2.hp p = some o) : Bef S0 S2 ps B := ⟨fun j p e => h p _ (b.at' j p e), b.nd, b.fr⟩
theorem Bef.ne {S0 S' : HD} {ps : List Addr} {B : Nat → List Nat} (b : Bef S0 S' ps B) {q : Addr} (h : S'.hp q = none ∨ ∃ kds, S'.hp q = some (.dic kds)) {j : Nat} {p : Addr} (e : ps[j]? = some p) : p ≠ q := fun z => by
  have := b.at' j p e
  rw [z] at this
  rcases h with h | ⟨_, h⟩ <;> rw [this] at h <;> cases h
theorem Bef.setq {S0 S' : HD} {ps : List Addr} {B : Nat → List Nat} (b : Bef S0 S' ps B) {q : Addr} {o : OD} (h : ∀ p ∈ ps, p ≠ q) : Bef S0 (S'.set q o) ps B := ⟨fun j p e => by rw [HD.set_ne (h p (List.mem_of_getElem? e))]; exact b.at' j p e, b.nd, b.fr⟩
theorem Bef.add {S0 S' : HD} {ps : List Addr} {B : Nat → List Nat} (b : Bef S0 S' ps B) {t s : Nat} {p : Addr} (e : ps[t]? = some p) : Bef S0 (S'.set p (.lst ((B t).map natD ++ [natD s]))) ps (fun j => if j = t then B t ++ [s] else B j) where
  at' := fun j p' e' => by
    by_cases h : j = t
    · subst h
      rw [e] at e'
      cases e'
      rw [HD.set_same, if_pos rfl, List.map_append]
      rfl
    · have ne : p' ≠ p := fun z => by
        subst z
        exact h ((List.getElem?_inj (List.getElem?_eq_some_iff.mp e').1 b.nd).mp (e'.trans e.symm))
      rw [HD.set_ne ne, if_neg h]
      exact b.at' j p' e'
  nd := b.nd
  fr := b.fr
theorem nodup_snoc {α : Type} {xs : List α} {x : α} (h : xs.Nodup) (hn : x ∉ xs) : (xs ++ [x]).Nodup := by
  rw [List.nodup_append]
  exact ⟨h, by simp, fun a ha b hb e => hn (by rw [List.mem_singleton.mp hb] at e; exact e ▸ ha)⟩
theorem nil_or_snoc {α : Type} (xs : List α) : xs = [] ∨ ∃ ys y, xs = ys ++ [y] := by
  rcases List.eq_nil_or_concat xs with h | ⟨ys, y, h⟩
  · exact .inl h
  · exact .inr ⟨ys, y, by rw [h, List.concat_eq_append]⟩
def spLiv : SpD := fun ds S Q => ∃ (M : Mch) (b : Bool), ds = [rowsD b M, endsD b M] ∧ M.Ok ∧ ∀ ls : List Nat, ls.Nodup → (∀ s, s ∈ ls ↔ M.live s) → Q (.dic (dnat (fun _ => .bl true) ls)) S
theorem liv_len (ds : List D) (S : HD) (Q : QD) (h : spLiv ds S Q) : ds.length = 2 := by
  obtain ⟨_, _, rfl, _⟩ := h
  rfl
def predsTo (M : Mch) (i k : Nat) (B : Nat → List Nat) : Prop := (∀ j s, s ∈ B j ↔ (s < i ∧ ∃ c, M.nx s c = some j) ∨ (s = i ∧ ∃ c, c < k ∧ M.nx i c = some j)) ∧ ∀ j, (B j).length ≤ 3 * i + k
theorem preds_0 (M : Mch) : predsTo M 0 0 (fun _ => []) := ⟨fun j s => by simp, fun j => by simp⟩
theorem preds_row {M : Mch} (ok : M.Ok) {i : Nat} {B : Nat → List Nat} (h : predsTo M i M.L B) : predsTo M (i + 1) 0 B := by
  have l3 := ok.l3
  refine ⟨fun j s => ?_, fun j => by have := h.2 j; omega⟩
  rw [h.1]
  constructor
  · rintro (⟨h1, h2⟩ | ⟨rfl, c, _, h2⟩)
    · exact .inl ⟨by omega, h2⟩
    · exact .inl ⟨by omega, c, h2⟩
  · rintro (⟨h1, c, h2⟩ | ⟨_, c, hc, _⟩)
    · by_cases e : s = i
      · subst e
        exact .inr ⟨rfl, c, nx_c ok h2, h2⟩
      · exact .inl ⟨by omega, c, h2⟩
    · omega
theorem preds_skip {M : Mch} {i k : Nat} {B : Nat → List Nat} (h : predsTo M i k B) (e : M.nx i k = none) : predsTo M i (k + 1) B := by
  refine ⟨fun j s => ?_, fun j => by have := h.2 j; omega⟩
  rw [h.1]
  constructor
  · rintro (h1 | ⟨h1, c, hc, h2⟩)
    · exact .inl h1
    · exact .inr ⟨h1, c, by omega, h2⟩
  · rintro (h1 | ⟨h1, c, hc, h2⟩)
    · exact .inl h1
    · by_cases z : c = k
      · subst z
        rw [e] at h2
        cases h2
      · exact .inr ⟨h1, c, by omega, h2⟩
theorem preds_add {M : Mch} {i k t : Nat} {B : Nat → List Nat} (h : predsTo M i k B) (e : M.nx i k = some t) : predsTo M i (k + 1) (fun j => if j = t then B t ++ [i] else B j) := by
  refine ⟨fun j s => ?_, fun j => ?_⟩
  · have key : (s ∈ if j = t then B t ++ [i] else B j) ↔ s ∈ B j ∨ (j = t ∧ s = i) := by
      by_cases hj : j = t
      · subst hj; simp
      · simp [hj]
    rw [key, h.1]
    constructor
    · rintro ((h1 | ⟨h1, c, hc, h2⟩) | ⟨rfl, rfl⟩)
      · exact .inl h1
      · exact .inr ⟨h1, c, by omega, h2⟩
      · exact .inr ⟨rfl, k, by omega, e⟩
    · rintro (h1 | ⟨h1, c, hc, h2⟩)
      · exact .inl (.inl h1)
      · by_cases z : c = k
        · subst z
          rw [e] at h2
          cases h2
          exact .inr ⟨rfl, h1⟩
        · exact .inl (.inr ⟨h1, c, by omega, h2⟩)
  · have h1 := h.2 j
    have h2 := h.2 t
    show (if j = t then B t ++ [i] else B j).length ≤ _
    split
    · rw [List.length_append, List.length_singleton]; omega
    · omega
structure LivI (M : Mch) (fd wt : List Nat) : Prop where
  nd : fd.Nodup
  lv : ∀ s ∈ fd, s < M.rows.length ∧ M.live s
  fi : ∀ s, M.fin s = true → s ∈ fd
  sub : ∀ s ∈ wt, s ∈ fd
  cl : ∀ s ∈ fd, s ∈ wt ∨ ∀ r c, M.nx r c = some s → r ∈ fd
  len : wt.length ≤ fd.length
theorem liv_ok (ds : List D) (S : HD) (Q : QD) (h : spLiv ds S Q) : rd_living (ends Q) (pad 9 ds) S := by
  obtain ⟨M, b, rfl, ok, q⟩ := h
  have n4 := ok.n4
  have hsl : (sizeLine : Nat) = 16777216 := rfl
  unfold rd_living
  -- before = [[] for row in rows]
  refine seq_step fun N1 hN1 => ?_
  generalize hg4 : gNameD 4 = g4
  generalize hte : tLstR tNilD = te
  unfold rowsD
  walk_at "rdx"
  subst hg4 hte
  refine any_sq fun hz => ⟨hz, lcD_go (fun i acc S' => ∃ ps : List Addr, acc = ps.map .ref ∧ ps.length = i ∧ Bef S S' ps (fun _ => []) ∧ Up 0 S S') ⟨[], rfl, rfl, ⟨fun j p e => (by simp at e), List.nodup_nil, fun p hp => (by cases hp)⟩, .refl S⟩
    (fun i d acc S' N hi ⟨ps, e1, e2, b1, u1⟩ k => ⟨trivial, ?_⟩) fun acc S' ⟨ps, e1, e2, b1, u1⟩ => ⟨trivial, hN1 _ _ ?_⟩⟩
  · walk_at "rdx"
    refine ⟨by decide, fun p hp => k _ _ ⟨ps ++ [p], ?_, by rw [List.length_append, e2]; rfl, ?_, u1.new hp⟩⟩
    · rw [e1, List.map_append]; rfl
    · have pn : p ∉ ps := fun hm => by
        obtain ⟨j, hj⟩ := List.mem_iff_getElem?.mp hm
        rw [b1.at' j p hj] at hp
        cases hp
      refine ⟨fun j p' e => ?_, nodup_snoc b1.nd pn, fun p' hp' => ?_⟩
      · by_cases hj : j < ps.length
        · rw [List.getElem?_append_left hj] at e
          have ne : p' ≠ p := fun z => pn (z ▸ List.mem_of_getElem? e)
          rw [HD.set_ne ne]
          exact b1.at' j p' e
        · rw [List.getElem?_append_right (by omega)] at e
          have hm := List.mem_of_getElem? e
          rw [List.mem_singleton.mp hm, HD.set_same]
          rfl
      · rcases List.mem_append.mp hp' with h | h
        · exact b1.fr p' h
        · rw [List.mem_singleton.mp h]
          exact u1.none hp
  clear hN1 N1
  rw [List.length_map] at e2
  subst e1
  -- the moves
  refine seq_step fun N1 hN1 => ?_
  generalize hg : (gTupD 2 _ : TGD) = g
  generalize hB : (sForD (iAnyD _) _ _ : TSD) = T1
  walk_at "rdx"
  subst hg hB
  refine loopD_go (fun i σ S2 => ∃ (v3 v4 v5 : Option D) (B : Nat → List Nat), σ = [some (rowsD b M), some (endsD b M), some (.lst (ps.map .ref)), v3, v4, v5, none, none, none] ∧ Bef S S2 ps B ∧ Up 0 S S2 ∧ predsTo M i 0 B)
    ⟨none, none, none, _, rfl, b1, u1, preds_0 M⟩ (fun i d σ S2 N hi ⟨v3, v4, v5, B, f1, f2, f3, f4⟩ k => ⟨trivial, ?_⟩) fun σ S2 ⟨v3, v4, v5, B, f1, f2, f3, f4⟩ => ⟨trivial, hN1 _ _ ?_⟩
  · subst f1
    obtain ⟨x, hx, rfl⟩ := enumD_get hi
    rw [List.getElem?_map] at hx
    obtain ⟨row, hrow, rfl⟩ := Option.map_eq_some_iff.mp hx
    have hil : i < M.rows.length := (List.getElem?_eq_some_iff.mp hrow).1
    have hwd := ok.wd row (List.mem_of_getElem? hrow)
    have hnx : ∀ c, (row[c]?).bind id = M.nx i c := fun c => by unfold Mch.nx; rw [hrow]; rfl
    generalize hB : (sIfD _ _ _ : TSD) = T1
    walk_at "rdx"
    subst hB
    refine any_sq fun hz => ?_
    refine loopD_go (fun kk σ S3 => ∃ (v5 : Option D) (B : Nat → List Nat), σ = [some (rowsD b M), some (endsD b M), some (.lst (ps.map .ref)), some (natD i), some (seqD b (row.map encC)), v5, none, none, none] ∧ Bef S S3 ps B ∧ Up 0 S S3 ∧ predsTo M i kk B)
      ⟨v5, B, rfl, f2, f3, f4⟩ (fun c d σ S3 N3 hc ⟨v5, B, h1, h2, h3, h4⟩ k3 => ⟨trivial, ?_⟩) fun σ S3 ⟨v5, B, h1, h2, h3, h4⟩ => ⟨trivial, ?_⟩
    · subst h1
      obtain ⟨t, ht, rfl⟩ := encC_get hc
      have hn : M.nx i c = t := by rw [← hnx, ht]; rfl
      cases t with
      | none =>
        walk_at "rdx"
        simp only [encC, isN, Bool.not_true, Bool.false_eq_true, if_false]
        exact k3 _ _ ⟨_, B, rfl, h2, h3, preds_skip h4 hn⟩
      | some t =>
        have htl := M.nx_lt ok hn
        have hp : ps[t]? = some ps[t] := by simp [e2, htl]
        have e3 := atI_map (f := D.ref) hp
        have e4 := h2.at' t _ hp
        have hl := h4.2 t
        have hcl : c < M.L := nx_c ok hn
        have l3 := ok.l3
        simp_all only [encC, isN, Bool.not_false, if_true, e3, e4, List.length_map]
        exact ⟨⟨_, rfl⟩, by omega, k3 _ _ ⟨_, _, rfl, h2.add hp, h3.set (h2.fr _ (List.getElem_mem _)), preds_add h4 hn⟩⟩
    · rw [List.length_map, hwd] at h4
      exact k _ _ ⟨_, _, _, B, h1, h2, h3, preds_row ok h4⟩
  clear hN1 N1
  subst f1
  rw [enumD_len, List.length_map] at f4
  have hB : ∀ j s, s ∈ B j ↔ ∃ c, M.nx s c = some j := fun j s => by
    rw [f4.1]
    constructor
    · rintro (⟨_, h⟩ | ⟨_, c, h, _⟩)
      · exact h
      · omega
    · rintro ⟨c, h⟩
      exact .inl ⟨nx_s h, c, h⟩
  -- found = {}
  refine seq_step fun N1 hN1 => ?_
  walk_at "rdx"
  intro q0 hq
  refine hN1 _ _ ?_
  clear hN1 N1
  have pq : ∀ p ∈ ps, p ≠ q0 := fun p hp => by
    obtain ⟨j, hj⟩ := List.mem_iff_getElem?.mp hp
    exact f2.ne (.inl hq) hj
  have hq0 := f3.none hq
  have b2 := f2.setq (o := .dic []) pq
  have u2 := f3.new (o := .dic []) hq
  -- the ends
  refine seq_step fun N1 hN1 => ?_
  generalize hg : (gTupD 2 _ : TGD) = g
  unfold endsD
  generalize hI : (sIfD _ _ _ : TSD) = T1
  walk_at "rdx"
  subst hg hI
  refine loopD_go (fun i σ S3 => ∃ (v3 v7 : Option D), σ = [some (rowsD b M), some (endsD b M), some (.lst (ps.map .ref)), v3, v4, v5, some (.ref q0), v7, none] ∧ Bef S S3 ps B ∧ Up 0 S S3 ∧ S3.hp q0 = some (.dic (dnat (fun _ => .bl true) ((List.range i).filter M.fin))))
    ⟨_, _, rfl, b2, u2, HD.set_same⟩ (fun i d σ S3 N hi ⟨v3, v7, h1, h2, h3, h4⟩ k => ⟨trivial, ?_⟩) fun σ S3 ⟨v3, v7, h1, h2, h3, h4⟩ => ⟨trivial, hN1 _ _ ?_⟩
  · subst h1
    obtain ⟨x, hx, rfl⟩ := enumD_get hi
    rw [List.getElem?_map] at hx
    obtain ⟨bb, hb, rfl⟩ := Option.map_eq_some_iff.mp hx
    have hfi : M.fin i = bb := by unfold Mch.fin; rw [hb]; rfl
    have hil : i < M.ends.length := (List.getElem?_eq_some_iff.mp hb).1
    have hen := ok.en
    have er : (List.range (i + 1)).filter M.fin = (List.range i).filter M.fin ++ if bb = true then [i] else [] := by
      rw [List.range_succ, List.filter_append, List.filter_cons, hfi]
      cases bb <;> rfl
    cases bb with
    | false =>
      walk_at "rdx"
      exact k _ _ ⟨_, _, rfl, h2, h3, by rw [er]; simpa using h4⟩
    | true =>
      have hni : i ∉ (List.range i).filter M.fin := fun h => by have := List.mem_range.mp (List.mem_filter.mp h).1; omega
      have hll : ((List.range i).filter M.fin).length ≤ i := by have := List.length_filter_le M.fin (List.range i); simpa using this
      simp_all only [h4, dnat_len]
      refine ⟨by omega, k _ _ ⟨_, _, rfl, h2.setq pq, h3.set hq0, ?_⟩⟩
      rw [HD.set_same]
      rw [er]
      exact congrArg (fun z => some (OD.dic z)) (putD_new (fun _ => D.bl true) hni)
  clear hN1 N1
  subst h1
  rw [enumD_len, List.length_map, ok.en] at h4
  generalize hfd0 : (List.range M.rows.length).filter M.fin = fd0 at h4
  have J0 : LivI M fd0 fd0 := by
    subst hfd0
    refine ⟨List.Pairwise.filter _ List.nodup_range, fun s hs => ?_, fun s hs => ?_, fun s hs => hs, fun s hs => .inl hs, Nat.le_refl _⟩
    · obtain ⟨z1, z2⟩ := List.mem_filter.mp hs
      exact ⟨List.mem_range.mp z1, [], z2⟩
    · exact List.mem_filter.mpr ⟨List.mem_range.mpr (fin_lt ok hs), hs⟩
  -- waiting = list(found)
  refine seq_step fun N1 hN1 => ?_
  have ekeys : (dnat (fun _ => D.bl true) fd0).map (·.1) = fd0.map natD := by unfold dnat; rw [List.map_map]; rfl
  simp_all only [h4, ekeys]
  intro w hw
  refine hN1 _ _ ?_
  clear hN1 N1
  have qw : q0 ≠ w := fun z => by rw [z, hw] at h4; cases h4
  have pw : ∀ p ∈ ps, p ≠ w := fun p hp => by
    obtain ⟨j, hj⟩ := List.mem_iff_getElem?.mp hp
    exact h2.ne (.inl hw) hj
  have hw0 := h3.none hw
  -- the stack
  refine seq_step fun N1 hN1 => ?_
  let I : Nat → SD → HD → Prop := fun m σ S' => ∃ (fd wt : List Nat) (v3 : Option D), σ = [some (rowsD b M), some (endsD b M), some (.lst (ps.map .ref)), v3, v4, v5, some (.ref q0), v7, some (.ref w)] ∧ Bef S S' ps B ∧ Up 0 S S' ∧
    S'.hp q0 = some (.dic (dnat (fun _ => .bl true) fd)) ∧ S'.hp w = some (.lst (wt.map natD)) ∧ LivI M fd wt ∧ m = 2 * (M.rows.length - fd.length) + wt.length
  refine while_go I (n := _) (fun m σ S' N ⟨fd, wt, v3, i1, i2, i3, i4, i5, J, em⟩ k => ?_) ⟨fd0, fd0, _, rfl, h2.setq pw, h3.set hw0, by rw [HD.set_ne qw]; exact h4, HD.set_same, J0, rfl⟩
  subst i1
  have hfl := lt_len J.nd fun s hs => (J.lv s hs).1
  rcases nil_or_snoc wt with rfl | ⟨wi, x, rfl⟩
  · simp_all only [i5, List.map_nil, List.isEmpty_nil, if_false]
    refine ⟨by decide, hN1 _ _ ?_⟩
    walk_at "rdx"
    refine fin.frzD i4 ⟨fun a o h => ?_, i3.c, i3.dk.symm⟩ (q fd J.nd fun s => ⟨fun hs => (J.lv s hs).2, fun ⟨v, hv⟩ => ?_⟩)
    · have ne : a ≠ q0 := fun e => by rw [e, hq0] at h; cases h
      simp only [HD.del, ne, if_false]
      exact i3.hp a o h
    · refine live_in (P := fun s => s ∈ fd) J.fi (fun s c t hn ht => ?_) v s hv
      rcases J.cl t ht with h | h
      · cases h
      · exact h s c hn
  · have hne : ((wi ++ [x]).map natD).isEmpty = false := by simp
    have hxfd := J.sub x (by simp)
    have hxl := (J.lv x hxfd).1
    have hp : ps[x]? = some ps[x] := by simp [e2, hxl]
    have e3 := atI_map (f := D.ref) hp
    have elast : ((wi ++ [x]).map natD).getLast? = some (natD x) := by simp
    have edrop : ((wi ++ [x]).map natD).dropLast = wi.map natD := by simp
    have pnw := pw _ (List.getElem_mem (by rw [e2]; exact hxl) : ps[x] ∈ ps)
    have e4 : (S'.set w (.lst (wi.map natD))).hp ps[x] = some (.lst ((B x).map natD)) := by rw [HD.set_ne pnw]; exact i2.at' x _ hp
    generalize hT : (sIfD _ _ _ : TSD) = T1
    simp_all only [i5, hne, elast, edrop, e3, e4, if_true]
    subst hT
    refine ⟨by decide, ⟨(wi ++ [x]).map natD, by simp only [asLst, i5]⟩, fun hz => ?_⟩
    have J2 : ∀ r, r ∈ B x → r < M.rows.length ∧ M.live r := fun r hr => by
      obtain ⟨c, hc⟩ := (hB x r).mp hr
      exact ⟨nx_s hc, live_nx hc (J.lv x hxfd).2⟩
    refine loopD_go (fun i σ S3 => ∃ (gs : List Nat) (v3 : Option D), σ = [some (rowsD b M), some (endsD b M), some (.lst (ps.map .ref)), v3, v4, v5, some (.ref q0), v7, some (.ref w)] ∧ Bef S S3 ps B ∧ Up 0 S S3 ∧
        S3.hp q0 = some (.dic (dnat (fun _ => .bl true) (fd ++ gs))) ∧ S3.hp w = some (.lst ((wi ++ gs).map natD)) ∧ (fd ++ gs).Nodup ∧ (∀ s ∈ gs, s ∈ B x) ∧ ∀ j r, j < i → (B x)[j]? = some r → r ∈ fd ++ gs)
      ⟨[], _, rfl, i2.setq pw, i3.set hw0, by rw [HD.set_ne qw, List.append_nil]; exact i4, by rw [HD.set_same, List.append_nil], by rw [List.append_nil]; exact J.nd, fun s hs => (by cases hs), fun j r hj => absurd hj (Nat.not_lt_zero _)⟩
      (fun i d σ S3 N3 hi ⟨gs, v3, j1, j2, j3, j4, j5, j6, j7, j8⟩ k3 => ⟨j2.at' x _ hp, ?_⟩) fun σ S3 ⟨gs, v3, j1, j2, j3, j4, j5, j6, j7, j8⟩ => ⟨j2.at' x _ hp, ?_⟩
    · subst j1
      rw [List.getElem?_map] at hi
      obtain ⟨r, hr, rfl⟩ := Option.map_eq_some_iff.mp hi
      have hrm := List.mem_of_getElem? hr
      have next : ∀ gs', (r ∈ fd ++ gs') → (∀ z, z ∈ fd ++ gs → z ∈ fd ++ gs') → ∀ j z, j < i + 1 → (B x)[j]? = some z → z ∈ fd ++ gs' := fun gs' h1 h2 j z hj hz => by
        by_cases e : j = i
        · subst e
          rw [hr] at hz
          cases hz
          exact h1
        · exact h2 z (j8 j z (by omega) hz)
      simp_all only [j4, hasK_nat]
      by_cases hm : r ∈ fd ++ gs
      · simp only [hm, decide_true, Bool.not_true, Bool.false_eq_true, if_false]
        exact k3 _ _ ⟨gs, _, rfl, j2, j3, j4, j5, j6, j7, next gs hm fun z h => h⟩
      · simp only [hm, decide_false, Bool.not_false, if_true]
        have hl := lt_len j6 fun s hs => (List.mem_append.mp hs).elim (fun h => (J.lv s h).1) fun h => (J2 s (j7 s h)).1
        have hwl := J.len
        rw [List.length_append, List.length_singleton] at hwl
        have j5' : (S3.set q0 (.dic (putD (dnat (fun _ => .bl true) (fd ++ gs)) (.inl (r : Int)) (.bl true)))).hp w = some (.lst ((wi ++ gs).map natD)) := by rw [HD.set_ne (Ne.symm qw)]; exact j5
        simp only [dnat_len, j5', List.length_map]
        rw [List.length_append] at hl
        refine ⟨by rw [List.length_append]; omega, ⟨_, rfl⟩, by rw [List.length_append]; omega, k3 _ _ ⟨gs ++ [r], _, rfl, (j2.setq pq).setq pw, (j3.set hq0).set hw0, ?_, ?_, ?_, ?_, next _ (by simp) fun z h => ?_⟩⟩
        · rw [HD.set_ne qw, HD.set_same, ← List.append_assoc]
          exact congrArg (fun z => some (OD.dic z)) (putD_new (fun _ => D.bl true) hm)
        · rw [HD.set_same]; simp
        · rw [← List.append_assoc]; exact nodup_snoc j6 hm
        · intro s hs
          rcases List.mem_append.mp hs with h | h
          · exact j7 s h
          · rw [List.mem_singleton.mp h]; exact hrm
        · rw [← List.append_assoc]; exact List.mem_append_left _ h
    · subst j1
      rw [List.length_map] at j8
      have all : ∀ r, r ∈ B x → r ∈ fd ++ gs := fun r hr => by
        obtain ⟨j, hj⟩ := List.mem_iff_getElem?.mp hr
        exact j8 j r (List.getElem?_eq_some_iff.mp hj).1 hj
      have J3 : LivI M (fd ++ gs) (wi ++ gs) := by
        refine ⟨j6, fun s hs => (List.mem_append.mp hs).elim (J.lv s) fun h => J2 s (j7 s h), fun s hs => List.mem_append_left _ (J.fi s hs), fun s hs => ?_, fun s hs => ?_, ?_⟩
        · rcases List.mem_append.mp hs with h | h
          · exact List.mem_append_left _ (J.sub s (List.mem_append_left _ h))
          · exact List.mem_append_right _ h
        · rcases List.mem_append.mp hs with h | h
          · rcases J.cl s h with h2 | h2
            · rcases List.mem_append.mp h2 with h3 | h3
              · exact .inl (List.mem_append_left _ h3)
              · rw [List.mem_singleton.mp h3]
                exact .inr fun r c hn => all r ((hB x r).mpr ⟨c, hn⟩)
            · exact .inr fun r c hn => List.mem_append_left _ (h2 r c hn)
          · exact .inl (List.mem_append_right _ h)
        · have := J.len
          simp only [List.length_append, List.length_singleton] at this ⊢
          omega
      have hl2 := lt_len J3.nd fun s hs => (J3.lv s hs).1
      rw [List.length_append] at hl2
      refine k (2 * (M.rows.length - (fd ++ gs).length) + (wi ++ gs).length) _ _ ?_ ⟨fd ++ gs, wi ++ gs, _, rfl, j2, j3, j4, j5, J3, rfl⟩
      rw [em]
      simp only [List.length_append, List.length_singleton]
      omega
end PM
end

section
local macro_rules | `(tactic| walk_at "rdx") => `(tactic| simp only [PD.pad, PD.gt_z, PD.gt_s, PD.st_z, PD.st_s, PD.sNextD, PD.sSeqD, PD.sBreakD, PD.sContD, PD.sDropD, PD.sRetD, PD.sRetND, PD.sIfD, PD.sNeverD, PD.sAsgD, PD.sPar2, PD.sPar3, PD.gNameD, PD.gNilD, PD.gConsD, PD.gTupD, PD.gSubD, PD.tNilD, PD.tConsD, PD.tTupD, PD.tLstV, PD.tLstR, PD.tBin, PD.tTst, PD.tAndD, PD.tOrD, PD.tNotD, PD.tIfD, PD.tAndV, PD.tOrV, PD.tNotV, PD.tUnD, PD.rNeg, PD.tCallD, PD.tSlot, PD.tCD, PD.tChainD, PD.rIsN, PD.rNotN, PD.rIsiD, PD.isi_non, PD.isi_bl, PD.isi_int, PD.isi_str, PD.isi_tup, PD.isi_lst, PD.isi_dic, PD.Ty.name, PD.rCmpI, PD.fLt, PD.fLe, PD.fGt, PD.fGe, PD.rAddD, PD.rSubD, PD.rFdivD, PD.rModD, PD.rPowD, PD.rMulD, PD.rAddR, PD.rMulR, PD.asSeq, PD.asLst, PD.rLenD, PD.rTupleD, PD.rListV, PD.rListR, PD.rIntD, PD.rBoolD, PD.rAbsD, PD.rIxD, PD.oNone, PD.oSome, PD.tSlD, PD.rSlD, PD.tRevTD, PD.rEqD, PD.rNeD, PD.nrm_non, PD.nrm_bl, PD.nrm_int, PD.nrm_str, PD.nrm_tup, PD.nrm_lst, PD.nrm_dic, PD.nrm_ref, PD.iSeqD, PD.iRng1D, PD.iRng2D, PD.sForD, PD.tLcV, PD.tLcR, PD.tYesD, PD.wipeD, PD.tMethL, PD.rAppD, PD.isRefL, PD.tDicV, PD.keyOf, PD.asDic, PD.srcD, PD.iAnyD, PD.iZipD, PD.iEnumD, PD.tDcV, PD.tDicR, PD.gSubX, PD.rSetX, PD.rIxX, PD.rInD, PD.rInX, PD.rInY, PD.rSumD, PD.tRevLD, PD.tRevX, PD.rSixD, PD.rJoinD, PD.tMethS, PD.rLixD, PD.rPopD, PD.rExtD, PD.tMethA, PD.rSetD, PD.rReprD, PD.eqk_int, PD.eqd_int, PD.eqk_str, PD.eqd_str, PD.eqk_lst0, PD.eqd_lst0, PD.eqk_tup0, PD.eqd_tup0, PD.tdOf, PD.keyT, PD.nksOf, PD.nkOf, PD.rInW, PD.rIxW, PD.rSetW, PD.gSubW, PD.rLenW, PD.rGetW, PD.rGetAt, PD.tMethW, PD.rSetdW, PD.tDispR, PD.tPairsD, PD.putAll, PD.tDisp1T, PD.gSeqD, PD.rListW, PD.tLenSetD, ↓PM.asSeq_sq, ↓PM.asDic_sq, ↓PM.srcD_sq, ↓PM.tdOf_sq, ↓PM.rIxD_sq, Option.map_some, Option.bind_some, PD.spFn, PD.spDraw, reduceIte, true_and, and_true, or_false, false_or, Bool.not_true, Bool.not_false, Bool.false_eq_true, List.length_cons, List.length_nil, List.set_cons_zero, List.set_cons_succ, PD.HD.set_same, PD.HD.tick_hp, PD.HD.tick_c, PD.HD.tick_dk, PD.HD.set_c, PD.HD.set_dk])
local macro_rules | `(tactic| simp_all only [$xs,*]) => `(tactic| simp only [PD.pad, PD.gt_z, PD.gt_s, PD.st_z, PD.st_s, PD.sNextD, PD.sSeqD, PD.sBreakD, PD.sContD, PD.sDropD, PD.sRetD, PD.sRetND, PD.sIfD, PD.sNeverD, PD.sAsgD, PD.sPar2, PD.sPar3, PD.gNameD, PD.gNilD, PD.gConsD, PD.gTupD, PD.gSubD, PD.tNilD, PD.tConsD, PD.tTupD, PD.tLstV, PD.tLstR, PD.tBin, PD.tTst, PD.tAndD, PD.tOrD, PD.tNotD, PD.tIfD, PD.tAndV, PD.tOrV, PD.tNotV, PD.tUnD, PD.rNeg, PD.tCallD, PD.tSlot, PD.tCD, PD.tChainD, PD.rIsN, PD.rNotN, PD.rIsiD, PD.isi_non, PD.isi_bl, PD.isi_int, PD.isi_str, PD.isi_tup, PD.isi_lst, PD.isi_dic, PD.Ty.name, PD.rCmpI, PD.fLt, PD.fLe, PD.fGt, PD.fGe, PD.rAddD, PD.rSubD, PD.rFdivD, PD.rModD, PD.rPowD, PD.rMulD, PD.rAddR, PD.rMulR, PD.asSeq, PD.asLst, PD.rLenD, PD.rTupleD, PD.rListV, PD.rListR, PD.rIntD, PD.rBoolD, PD.rAbsD, PD.rIxD, PD.oNone, PD.oSome, PD.tSlD, PD.rSlD, PD.tRevTD, PD.rEqD, PD.rNeD, PD.nrm_non, PD.nrm_bl, PD.nrm_int, PD.nrm_str, PD.nrm_tup, PD.nrm_lst, PD.nrm_dic, PD.nrm_ref, PD.iSeqD, PD.iRng1D, PD.iRng2D, PD.sForD, PD.tLcV, PD.tLcR, PD.tYesD, PD.wipeD, PD.tMethL, PD.rAppD, PD.isRefL, PD.tDicV, PD.keyOf, PD.asDic, PD.srcD, PD.iAnyD, PD.iZipD, PD.iEnumD, PD.tDcV, PD.tDicR, PD.gSubX, PD.rSetX, PD.rIxX, PD.rInD, PD.rInX, PD.rInY, PD.rSumD, PD.tRevLD, PD.tRevX, PD.rSixD, PD.rJoinD, PD.tMethS, PD.rLixD, PD.rPopD, PD.rExtD, PD.tMethA, PD.rSetD, PD.rReprD, PD.eqk_int, PD.eqd_int, PD.eqk_str, PD.eqd_str, PD.eqk_lst0, PD.eqd_lst0, PD.eqk_tup0, PD.eqd_tup0, PD.tdOf, PD.keyT, PD.nksOf, PD.nkOf, PD.rInW, PD.rIxW, PD.rSetW, PD.gSubW, PD.rLenW, PD.rGetW, PD.rGetAt, PD.tMethW, PD.rSetdW, PD.tDispR, PD.tPairsD, PD.putAll, PD.tDisp1T, PD.gSeqD, PD.rListW, PD.tLenSetD, ↓PM.asSeq_sq, ↓PM.asDic_sq, ↓PM.srcD_sq, ↓PM.tdOf_sq, ↓PM.rIxD_sq, Option.map_some, Option.bind_some, PD.spFn, PD.spDraw, reduceIte, true_and, and_true, or_false, false_or, Bool.not_true, Bool.not_false, Bool.false_eq_true, List.length_cons, List.length_nil, List.set_cons_zero, List.set_cons_succ, PD.HD.set_same, PD.HD.tick_hp, PD.HD.tick_c, PD.HD.tick_dk, PD.HD.set_c, PD.HD.set_dk, $xs,*])
/-! PN4: parted. -/
namespace PM
open PySem PySem.Spec PyProof.Rows PD
theorem dnat_congr {f g : Nat → D} {ls : List Nat} (h : ∀ s ∈ ls, f s = g s) : dnat f ls = dnat g ls := by
  unfold dnat
  exact List.map_congr_left fun s hs => by rw [h s hs]
/-- {s: f(s) for s in states} -/
theorem dcD_st {g : TGD} {tt : TTD} {tk tv : TED} {σ : SD} {keep : HD → Prop} {Q : List (D × D) → HD → Prop} {S : HD} (f : Nat → D) (hk : keep S) : ∀ (post pre : List Nat), (pre ++ post).Nodup →
    (∀ s ∈ post, ∀ (Q1 : D → D → HD → Prop) (Q0 : HD → Prop), Q1 (natD s) (f s) S → g (natD s) σ S fun σ2 S2 => tt σ2 S2 fun b S3 => if b = true then tk σ2 S3 fun y S4 => tv σ2 S4 fun z S5 => Q1 y z S5 else Q0 S3) →
    Q (dnat f (pre ++ post)) S → dcD g tt tk tv σ keep Q (post.map natD) (dnat f pre) S
  | [], pre, _, _, q => ⟨hk, by simpa using q⟩
  | s :: post, pre, hn, h, q => by
    have hp : s ∉ pre := fun hs => by
      rw [List.nodup_append] at hn
      exact hn.2.2 s hs s List.mem_cons_self rfl
    refine ⟨hk, h s List.mem_cons_self _ _ ?_⟩
    show dcD g tt tk tv σ keep Q (post.map natD) (putD (dnat f pre) (.inl (s : Int)) (f s)) S
    rw [putD_new f hp]
    have e : pre ++ s :: post = (pre ++ [s]) ++ post := by simp
    rw [e] at hn q
    exact dcD_st f hk post (pre ++ [s]) hn (fun t ht => h t (List.mem_cons_of_mem _ ht)) q
/-- what a cell's part is -/
def cellK (f : Nat → Nat) (st : List Nat) : Option Nat → NestedKey
  | none => .none
  | some t => if t ∈ st then .num (f t : Nat) else .none
def cellD (f : Nat → Nat) (st : List Nat) : Option Nat → D
  | none => .non
  | some t => if t ∈ st then natD (f t) else .non
theorem cellK_in {f : Nat → Nat} {st : List Nat} {t : Nat} (h : t ∈ st) : cellK f st (some t) = .num (f t : Nat) := if_pos h
theorem cellK_out {f : Nat → Nat} {st : List Nat} {t : Nat} (h : t ∉ st) : cellK f st (some t) = .none := if_neg h
theorem cellD_in {f : Nat → Nat} {st : List Nat} {t : Nat} (h : t ∈ st) : cellD f st (some t) = natD (f t) := if_pos h
theorem cellD_out {f : Nat → Nat} {st : List Nat} {t : Nat} (h : t ∉ st) : cellD f st (some t) = .non := if_neg h
def Mch.rowOf (M : Mch) (s : Nat) : List (Option Nat) := (M.rows[s]?).getD []
def mkD (M : Mch) (f : Nat → Nat) (st : List Nat) (s : Nat) : D := .tup (natD (f s) :: (M.rowOf s).map (cellD f st))
def mkK (M : Mch) (f : Nat → Nat) (st : List Nat) (s : Nat) : NestedKey := .tup (.num (f s : Nat) :: (M.rowOf s).map (cellK f st))
theorem cell_nk (f : Nat → Nat) (st : List Nat) (c : Option Nat) : nkOf (cellD f st c) = some (cellK f st c) := by
  cases c with
  | none => rfl
  | some t =>
    by_cases h : t ∈ st
    · rw [cellD_in h, cellK_in h]; rfl
    · rw [cellD_out h, cellK_out h]; rfl
theorem cells_nk (f : Nat → Nat) (st : List Nat) : ∀ r : List (Option Nat), nksOf (r.map (cellD f st)) = some (r.map (cellK f st))
  | [] => rfl
  | c :: r => by
    show ((nkOf (cellD f st c)).bind fun k => (nksOf (r.map (cellD f st))).map (k :: ·)) = _
    rw [cell_nk, cells_nk f st r]
    rfl
theorem mk_key (M : Mch) (f : Nat → Nat) (st : List Nat) (s : Nat) : keyT (mkD M f st s) = some (mkK M f st s) := by
  show (nksOf (natD (f s) :: (M.rowOf s).map (cellD f st))).map NestedKey.tup = _
  show (((nkOf (natD (f s))).bind fun k => (nksOf ((M.rowOf s).map (cellD f st))).map (k :: ·))).map NestedKey.tup = _
  rw [cells_nk]
  rfl
theorem mk_dep (M : Mch) (f : Nat → Nat) (st : List Nat) (s : Nat) : (mkK M f st s).depth ≤ 8 := by
  have key : ∀ r : List (Option Nat), NestedKey.depthAll (r.map (cellK f st)) = 0 := by
    intro r
    induction r with
    | nil => rfl
    | cons c r ih =>
      have : (cellK f st c).depth = 0 := by
        cases c with
        | none => rfl
        | some t =>
          by_cases h : t ∈ st
          · rw [cellK_in h]; rfl
          · rw [cellK_out h]; rfl
      show max ((cellK f st c).depth) (NestedKey.depthAll (r.map (cellK f st))) = 0
      rw [this, ih]
      rfl
  show max 0 (NestedKey.depthAll _) + 1 ≤ 8
  rw [key]
  decide
theorem rowOf_nx {M : Mch} (s c : Nat) : M.nx s c = ((M.rowOf s)[c]?).bind id := by
  unfold Mch.nx Mch.rowOf
  cases M.rows[s]? <;> simp
theorem rowOf_len {M : Mch} (ok : M.Ok) {s : Nat} (h : s < M.rows.length) : (M.rowOf s).length = M.L := by
  unfold Mch.rowOf
  simp only [List.getElem?_eq_getElem h, Option.getD_some]
  exact ok.wd _ (List.getElem_mem h)
theorem mk_iff {M : Mch} (ok : M.Ok) {f : Nat → Nat} {st : List Nat} {s t : Nat} (hs : s < M.rows.length) (ht : t < M.rows.length) : mkK M f st s = mkK M f st t ↔ f s = f t ∧ ∀ c, cellK f st (M.nx s c) = cellK f st (M.nx t c) := by
  have l1 := rowOf_len ok hs
  have l2 := rowOf_len ok ht
  unfold mkK
  constructor
  · intro h
    injection h with h
    injection h with h1 h2
    injection h1 with h1
    refine ⟨by omega, fun c => ?_⟩
    rw [rowOf_nx, rowOf_nx]
    by_cases hc : c < M.L
    · have := congrArg (·[c]?) h2
      simp only [List.getElem?_map] at this
      have e1 : (M.rowOf s)[c]? = some (M.rowOf s)[c] := by simp [l1, hc]
      have e2 : (M.rowOf t)[c]? = some (M.rowOf t)[c] := by simp [l2, hc]
      rw [e1, e2] at this ⊢
      exact Option.some.inj this
    · rw [List.getElem?_eq_none (by omega), List.getElem?_eq_none (by omega)]
  · rintro ⟨h1, h2⟩
    congr 2
    · rw [h1]
    · apply List.ext_getElem (by simp [l1, l2])
      intro c c1 c2
      simp only [List.length_map] at c1 c2
      have := h2 c
      rw [rowOf_nx, rowOf_nx] at this
      simpa [c1, c2] using this
/-- the places of the marks, as they are met -/
def plD (mk : Nat → D) (n : Nat) : List Nat → List (D × D)
  | [] => []
  | r :: rs => (mk r, natD n) :: plD mk (n + 1) rs
theorem plD_len (mk : Nat → D) : ∀ (rs : List Nat) (n : Nat), (plD mk n rs).length = rs.length
  | [], _ => rfl
  | r :: rs, n => by simp [plD, plD_len mk rs (n + 1)]
theorem plD_snoc (mk : Nat → D) (s : Nat) : ∀ (rs : List Nat) (n : Nat), plD mk n (rs ++ [s]) = plD mk n rs ++ [(mk s, natD (n + rs.length))]
  | [], n => rfl
  | r :: rs, n => by
    show (mk r, natD n) :: plD mk (n + 1) (rs ++ [s]) = _
    rw [plD_snoc mk s rs (n + 1)]
    simp only [List.length_cons]
    rw [show n + 1 + rs.length = n + (rs.length + 1) by omega]
    rfl
theorem getT_pl {mk : Nat → D} {nk : Nat → NestedKey} (h : ∀ r, nkOf (mk r) = some (nk r)) (k : NestedKey) : ∀ (rs : List Nat) (n : Nat), (getT (plD mk n rs) k = none ∧ ∀ r ∈ rs, nk r ≠ k) ∨ ∃ i r, getT (plD mk n rs) k = some (natD (n + i)) ∧ rs[i]? = some r ∧ nk r = k
  | [], _ => .inl ⟨rfl, fun _ h => nomatch h⟩
  | r :: rs, n => by
    by_cases e : nk r = k
    · exact .inr ⟨0, r, by simp [plD, getT, h, e], rfl, e⟩
    · have e1 : getT (plD mk n (r :: rs)) k = getT (plD mk (n + 1) rs) k := by
        simp only [plD, getT, h]
        exact if_neg fun q => e (Option.some.inj q)
      rcases getT_pl h k rs (n + 1) with ⟨h1, h2⟩ | ⟨i, r', h1, h2, h3⟩
      · exact .inl ⟨by rw [e1, h1], fun r' hr => (List.mem_cons.mp hr).elim (fun z => z ▸ e) (h2 r')⟩
      · exact .inr ⟨i + 1, r', by rw [e1, h1, show n + 1 + i = n + (i + 1) by omega], by simpa using h2, h3⟩
theorem pick {α : Type} {β : Type} {f : α → β} {st : List α} : ∀ l : List β, (∀ v ∈ l, ∃ s ∈ st, f s = v) → ∃ qs : List α, (∀ q ∈ qs, q ∈ st) ∧ qs.map f = l
  | [], _ => ⟨[], fun _ h => (nomatch h), rfl⟩
  | v :: l, h => by
    obtain ⟨s, h1, h2⟩ := h v List.mem_cons_self
    obtain ⟨qs, h3, h4⟩ := pick l fun v hv => h v (List.mem_cons_of_mem _ hv)
    exact ⟨s :: qs, fun q hq => (List.mem_cons.mp hq).elim (fun e => e ▸ h1) (h3 q), by rw [List.map_cons, h2, h4]⟩
theorem dist_ok (ns : List Int) : (dist ns).Nodup ∧ (∀ v, v ∈ dist ns ↔ v ∈ ns) := by
  have key : ∀ (ns acc : List Int), acc.Nodup → (ns.foldl (fun acc n => if acc.any (· == n) then acc else acc ++ [n]) acc).Nodup ∧ ∀ v, v ∈ ns.foldl (fun acc n => if acc.any (· == n) then acc else acc ++ [n]) acc ↔ v ∈ acc ∨ v ∈ ns := by
    intro ns
    induction ns with
    | nil => intro acc h; exact ⟨h, fun v => by simp⟩
    | cons n ns ih =>
      intro acc h
      rw [List.foldl_cons]
      by_cases hm : n ∈ acc
      · have e : (if acc.any (· == n) then acc else acc ++ [n]) = acc := if_pos (List.any_eq_true.mpr ⟨n, hm, by simp⟩)
        rw [e]
        obtain ⟨h1, h2⟩ := ih acc h
        refine ⟨h1, fun v => ?_⟩
        rw [h2, List.mem_cons]
        constructor
        · rintro (z | z)
          · exact .inl z
          · exact .inr (.inr z)
        · rintro (z | z | z)
          · exact .inl z
          · exact .inl (z ▸ hm)
          · exact .inr z
      · have e : (if acc.any (· == n) then acc else acc ++ [n]) = acc ++ [n] := if_neg fun z => by
          obtain ⟨y, hy, ey⟩ := List.any_eq_true.mp z
          exact hm (eq_of_beq ey ▸ hy)
        rw [e]
        obtain ⟨h1, h2⟩ := ih (acc ++ [n]) (nodup_snoc h hm)
        refine ⟨h1, fun v => ?_⟩
        rw [h2, List.mem_append, List.mem_singleton, List.mem_cons]
        constructor
        · rintro ((z | z) | z)
          · exact .inl z
          · exact .inr (.inl z)
          · exact .inr (.inr z)
        · rintro (z | z | z)
          · exact .inl (.inl z)
          · exact .inl (.inr z)
          · exact .inr z
  obtain ⟨h1, h2⟩ := key ns [] List.nodup_nil
  exact ⟨h1, fun v => by have := h2 v; simpa [dist] using this⟩
/-! ### the parts -/
structure Wit (st : List Nat) (f : Nat → Nat) (more : Nat) : Prop where
  ex : ∃ qs : List Nat, (∀ q ∈ qs, q ∈ st) ∧ (qs.map f).Nodup ∧ qs.length = more
theorem Wit.le {st : List Nat} {f : Nat → Nat} {more : Nat} (w : Wit st f more) : more ≤ st.length := by
  obtain ⟨qs, h1, h2, rfl⟩ := w.ex
  refine sub_len ?_ h1
  unfold List.Nodup at h2 ⊢
  rw [List.pairwise_map] at h2
  exact h2.imp fun h e => h (by rw [e])
structure Closed (M : Mch) (st : List Nat) : Prop where
  nd : st.Nodup
  lt : ∀ s ∈ st, s < M.rows.length
  lv : ∀ s ∈ st, M.live s
  cl : ∀ s ∈ st, ∀ c t, M.nx s c = some t → M.live t → t ∈ st
structure Sorts (M : Mch) (st : List Nat) (f : Nat → Nat) (more : Nat) : Prop where
  wit : Wit st f more
  fin : ∀ s ∈ st, ∀ t ∈ st, f s = f t → M.fin s = M.fin t
  req : ∀ s ∈ st, ∀ t ∈ st, M.req s t → f s = f t
structure Finer (M : Mch) (st : List Nat) (p : Nat → Nat) (many : Nat) (f : Nat → Nat) (more : Nat) : Prop where
  wit : Wit st p many
  iff : ∀ s ∈ st, ∀ t ∈ st, f s = f t ↔ p s = p t ∧ ∀ c, cellK p st (M.nx s c) = cellK p st (M.nx t c)
  lt : ∀ s ∈ st, f s < more
theorem cell_req {M : Mch} {st : List Nat} (C : Closed M st) {f : Nat → Nat} (hf : ∀ s ∈ st, ∀ t ∈ st, M.req s t → f s = f t) {s t : Nat} (hs : s ∈ st) (ht : t ∈ st) (h : M.req s t) (c : Nat) : cellK f st (M.nx s c) = cellK f st (M.nx t c) := by
  have half : ∀ {s t : Nat}, s ∈ st → t ∈ st → M.req s t → ∀ s', M.nx s c = some s' → s' ∈ st → ∃ t', M.nx t c = some t' ∧ t' ∈ st ∧ M.req s' t' := by
    intro s t hs ht h s' hn hm
    obtain ⟨w, hw⟩ := C.lv s' hm
    have : M.accF t (c :: w) = true := by rw [← h, accF_cons, hn]; exact hw
    obtain ⟨t', h1, h2⟩ := live_next this
    refine ⟨t', h1, C.cl t ht c t' h1 ⟨w, h2⟩, fun v => ?_⟩
    have := h (c :: v)
    rw [accF_cons, accF_cons, hn, h1] at this
    exact this
  have none_of : ∀ {s t : Nat}, s ∈ st → t ∈ st → M.req s t → (∀ s', M.nx s c = some s' → s' ∉ st) → ∀ t', M.nx t c = some t' → t' ∉ st := by
    intro s t hs ht h hno t' hn hm
    obtain ⟨s', h1, h2, _⟩ := half ht hs (fun w => (h w).symm) t' hn hm
    exact hno s' h1 h2
  have nn : ∀ {x : Option Nat}, (∀ t, x = some t → t ∉ st) → cellK f st x = .none := by
    intro x hx
    cases x with
    | none => rfl
    | some t => exact if_neg (hx t rfl)
  by_cases hex : ∃ s', M.nx s c = some s' ∧ s' ∈ st
  · obtain ⟨s', h1, h2⟩ := hex
    obtain ⟨t', h3, h4, h5⟩ := half hs ht h s' h1 h2
    rw [h1, h3]
    rw [cellK_in h2, cellK_in h4, hf s' h2 t' h4 h5]
  · have hno : ∀ s', M.nx s c = some s' → s' ∉ st := fun s' h1 h2 => hex ⟨s', h1, h2⟩
    rw [nn hno, nn (none_of hs ht h hno)]
/-- no finer: the parts are the residuals -/
theorem done {M : Mch} {st : List Nat} (C : Closed M st) {p f : Nat → Nat} {many more : Nat} (F : Finer M st p many f more) (J : Sorts M st f more) (hle : more ≤ many) : ∀ s ∈ st, ∀ t ∈ st, f s = f t ↔ M.req s t := by
  obtain ⟨qs, q1, q2, q3⟩ := F.wit.ex
  have stab := stable q1 q2 q3 F.lt (fun s hs t ht e => ((F.iff s hs t ht).mp e).1) hle
  have key : ∀ (w : List Nat) (s t : Nat), s ∈ st → t ∈ st → f s = f t → M.accF s w = M.accF t w := by
    intro w
    induction w with
    | nil => intro s t hs ht e; rw [accF_nil, accF_nil]; exact J.fin s hs t ht e
    | cons c w ih =>
      intro s t hs ht e
      have hc := ((F.iff s hs t ht).mp e).2 c
      have dead : ∀ {s s'}, s ∈ st → M.nx s c = some s' → s' ∉ st → M.accF s' w = false := by
        intro s s' hs hn hm
        cases h : M.accF s' w with
        | false => rfl
        | true => exact (hm (C.cl s hs c s' hn ⟨w, h⟩)).elim
      rw [accF_cons, accF_cons]
      cases h1 : M.nx s c with
      | none =>
        cases h2 : M.nx t c with
        | none => rfl
        | some t' =>
          by_cases hm : t' ∈ st
          · rw [h1, h2] at hc
            rw [cellK_in hm] at hc
            cases hc
          · exact (dead ht h2 hm).symm
      | some s' =>
        by_cases hm : s' ∈ st
        · cases h2 : M.nx t c with
          | none =>
            rw [h1, h2] at hc
            rw [cellK_in hm] at hc
            cases hc
          | some t' =>
            rw [h1, h2] at hc
            rw [cellK_in hm] at hc
            by_cases hm' : t' ∈ st
            · rw [cellK_in hm'] at hc
              injection hc with hc
              exact ih s' t' hm hm' (stab s' hm t' hm' (by omega))
            · rw [cellK_out hm'] at hc
              cases hc
        · have d1 := dead hs h1 hm
          cases h2 : M.nx t c with
          | none => exact d1
          | some t' =>
            by_cases hm' : t' ∈ st
            · rw [h1, h2] at hc
              rw [cellK_out hm, cellK_in hm'] at hc
              cases hc
            · exact d1.trans (dead ht h2 hm').symm
  exact fun s hs t ht => ⟨fun e w => key w s t hs ht e, J.req s hs t ht⟩
end PM
end

section
local macro_rules | `(tactic| walk_at "rdx") => `(tactic| simp only [PD.pad, PD.gt_z, PD.gt_s, PD.st_z, PD.st_s, PD.sNextD, PD.sSeqD, PD.sBreakD, PD.sContD, PD.sDropD, PD.sRetD, PD.sRetND, PD.sIfD, PD.sNeverD, PD.sAsgD, PD.sPar2, PD.sPar3, PD.gNameD, PD.gNilD, PD.gConsD, PD.gTupD, PD.gSubD, PD.tNilD, PD.tConsD, PD.tTupD, PD.tLstV, PD.tLstR, PD.tBin, PD.tTst, PD.tAndD, PD.tOrD, PD.tNotD, PD.tIfD, PD.tAndV, PD.tOrV, PD.tNotV, PD.tUnD, PD.rNeg, PD.tCallD, PD.tSlot, PD.tCD, PD.tChainD, PD.rIsN, PD.rNotN, PD.rIsiD, PD.isi_non, PD.isi_bl, PD.isi_int, PD.isi_str, PD.isi_tup, PD.isi_lst, PD.isi_dic, PD.Ty.name, PD.rCmpI, PD.fLt, PD.fLe, PD.fGt, PD.fGe, PD.rAddD, PD.rSubD, PD.rFdivD, PD.rModD, PD.rPowD, PD.rMulD, PD.rAddR, PD.rMulR, PD.asSeq, PD.asLst, PD.rLenD, PD.rTupleD, PD.rListV, PD.rListR, PD.rIntD, PD.rBoolD, PD.rAbsD, PD.rIxD, PD.oNone, PD.oSome, PD.tSlD, PD.rSlD, PD.tRevTD, PD.rEqD, PD.rNeD, PD.nrm_non, PD.nrm_bl, PD.nrm_int, PD.nrm_str, PD.nrm_tup, PD.nrm_lst, PD.nrm_dic, PD.nrm_ref, PD.iSeqD, PD.iRng1D, PD.iRng2D, PD.sForD, PD.tLcV, PD.tLcR, PD.tYesD, PD.wipeD, PD.tMethL, PD.rAppD, PD.isRefL, PD.tDicV, PD.keyOf, PD.asDic, PD.srcD, PD.iAnyD, PD.iZipD, PD.iEnumD, PD.tDcV, PD.tDicR, PD.gSubX, PD.rSetX, PD.rIxX, PD.rInD, PD.rInX, PD.rInY, PD.rSumD, PD.tRevLD, PD.tRevX, PD.rSixD, PD.rJoinD, PD.tMethS, PD.rLixD, PD.rPopD, PD.rExtD, PD.tMethA, PD.rSetD, PD.rReprD, PD.eqk_int, PD.eqd_int, PD.eqk_str, PD.eqd_str, PD.eqk_lst0, PD.eqd_lst0, PD.eqk_tup0, PD.eqd_tup0, PD.tdOf, PD.rInW, PD.rIxW, PD.rSetW, PD.gSubW, PD.rLenW, PD.rGetW, PD.rGetAt, PD.tMethW, PD.rSetdW, PD.tDispR, PD.tPairsD, PD.putAll, PD.tDisp1T, PD.gSeqD, PD.rListW, PD.tLenSetD, ↓PM.asSeq_sq, ↓PM.asDic_sq, ↓PM.srcD_sq, ↓PM.tdOf_sq, ↓PM.rIxD_sq, Option.map_some, Option.bind_some, PD.spFn, PD.spDraw, reduceIte, true_and, and_true, or_false, false_or, Bool.not_true, Bool.not_false, Bool.false_eq_true, List.length_cons, List.length_nil, List.set_cons_zero, List.set_cons_succ, PD.HD.set_same, PD.HD.tick_hp, PD.HD.tick_c, PD.HD.tick_dk, PD.HD.set_c, PD.HD.set_dk])
local macro_rules | `(tactic| simp_all only [$xs,*]) => `(tactic| simp only [PD.pad, PD.gt_z, PD.gt_s, PD.st_z, PD.st_s, PD.sNextD, PD.sSeqD, PD.sBreakD, PD.sContD, PD.sDropD, PD.sRetD, PD.sRetND, PD.sIfD, PD.sNeverD, PD.sAsgD, PD.sPar2, PD.sPar3, PD.gNameD, PD.gNilD, PD.gConsD, PD.gTupD, PD.gSubD, PD.tNilD, PD.tConsD, PD.tTupD, PD.tLstV, PD.tLstR, PD.tBin, PD.tTst, PD.tAndD, PD.tOrD, PD.tNotD, PD.tIfD, PD.tAndV, PD.tOrV, PD.tNotV, PD.tUnD, PD.rNeg, PD.tCallD, PD.tSlot, PD.tCD, PD.tChainD, PD.rIsN, PD.rNotN, PD.rIsiD, PD.isi_non, PD.isi_bl, PD.isi_int, PD.isi_str, PD.isi_tup, PD.isi_lst, PD.isi_dic, PD.Ty.name, PD.rCmpI, PD.fLt, PD.fLe, PD.fGt, PD.fGe, PD.rAddD, PD.rSubD, PD.rFdivD, PD.rModD, PD.rPowD, PD.rMulD, PD.rAddR, PD.rMulR, PD.asSeq, PD.asLst, PD.rLenD, PD.rTupleD, PD.rListV, PD.rListR, PD.rIntD, PD.rBoolD, PD.rAbsD, PD.rIxD, PD.oNone, PD.oSome, PD.tSlD, PD.rSlD, PD.tRevTD, PD.rEqD, PD.rNeD, PD.nrm_non, PD.nrm_bl, PD.nrm_int, PD.nrm_str, PD.nrm_tup, PD.nrm_lst, PD.nrm_dic, PD.nrm_ref, PD.iSeqD, PD.iRng1D, PD.iRng2D, PD.sForD, PD.tLcV, PD.tLcR, PD.tYesD, PD.wipeD, PD.tMethL, PD.rAppD, PD.isRefL, PD.tDicV, PD.keyOf, PD.asDic, PD.srcD, PD.iAnyD, PD.iZipD, PD.iEnumD, PD.tDcV, PD.tDicR, PD.gSubX, PD.rSetX, PD.rIxX, PD.rInD, PD.rInX, PD.rInY, PD.rSumD, PD.tRevLD, PD.tRevX, PD.rSixD, PD.rJoinD, PD.tMethS, PD.rLixD, PD.rPopD, PD.rExtD, PD.tMethA, PD.rSetD, PD.rReprD, PD.eqk_int, PD.eqd_int, PD.eqk_str, PD.eqd_str, PD.eqk_lst0, PD.eqd_lst0, PD.eqk_tup0, PD.eqd_tup0, PD.tdOf, PD.rInW, PD.rIxW, PD.rSetW, PD.gSubW, PD.rLenW, PD.rGetW, PD.rGetAt, PD.tMethW, PD.rSetdW, PD.tDispR, PD.tPairsD, PD.putAll, PD.tDisp1T, PD.gSeqD, PD.rListW, PD.tLenSetD, ↓PM.asSeq_sq, ↓PM.asDic_sq, ↓PM.srcD_sq, ↓PM.tdOf_sq, ↓PM.rIxD_sq, Option.map_some, Option.bind_some, PD.spFn, PD.spDraw, reduceIte, true_and, and_true, or_false, false_or, Bool.not_true, Bool.not_false, Bool.false_eq_true, List.length_cons, List.length_nil, List.set_cons_zero, List.set_cons_succ, PD.HD.set_same, PD.HD.tick_hp, PD.HD.tick_c, PD.HD.tick_dk, PD.HD.set_c, PD.HD.set_dk, $xs,*])
/-! PN5: parted, the walk. -/
namespace PM
open PySem PySem.Spec PyProof.Rows PD
theorem _root_.PD.Up.del {n : Nat} {S S' : HD} {p : Addr} (h : Up n S S') (hp : S.hp p = none) : Up n S (S'.del p) := ⟨fun a o e => by
  have ne : a ≠ p := fun z => by rw [z, hp] at e; cases e
  simp only [HD.del, ne, if_false]
  exact h.hp a o e, h.c, h.dk⟩
def spParted : SpD := fun ds S Q => ∃ (M : Mch) (b : Bool) (st : List Nat), ds = [rowsD b M, endsD b M, .lst (st.map natD)] ∧ M.Ok ∧ Closed M st ∧ st ≠ [] ∧
  ∀ f : Nat → Nat, (∀ s ∈ st, ∀ t ∈ st, f s = f t ↔ M.req s t) → Q (.dic (dnat (fun s => natD (f s)) st)) S
theorem parted_len (ds : List D) (S : HD) (Q : QD) (h : spParted ds S Q) : ds.length = 3 := by
  obtain ⟨_, _, _, rfl, _⟩ := h
  rfl
def cellOf (kds : List (D × D)) : D → Option D
  | .non => some .non
  | .int t => some ((getK kds (.inl t)).getD .non)
  | _ => none
theorem cells_of (f : Nat → Nat) (st : List Nat) (r : List (Option Nat)) : (r.map encC).filterMap (cellOf (dnat (fun s => natD (f s)) st)) = r.map (cellD f st) := by
  rw [List.filterMap_map, ← List.filterMap_eq_map]
  apply congrArg (fun g => List.filterMap g r)
  funext c
  cases c with
  | none => rfl
  | some t =>
    show some ((getK (dnat (fun s => natD (f s)) st) (.inl (t : Int))).getD .non) = some (cellD f st (some t))
    rw [getK_nat]
    by_cases h : t ∈ st
    · rw [if_pos h, cellD_in h]; rfl
    · rw [if_neg h, cellD_out h]; rfl
theorem end_at {M : Mch} (ok : M.Ok) {s : Nat} (h : s < M.rows.length) : L2.atI (M.ends.map D.bl) (s : Int) = some (.bl (M.fin s)) := atI_map (fin_at ok h)
structure Marks (M : Mch) (f : Nat → Nat) (st pre : List Nat) (g : Nat → Nat) (reps : List Nat) : Prop where
  nd : (reps.map (mkK M f st)).Nodup
  sub : ∀ r ∈ reps, r ∈ st
  at' : ∀ s ∈ pre, ∃ r, reps[g s]? = some r ∧ mkK M f st r = mkK M f st s
theorem Marks.ix {M : Mch} {f : Nat → Nat} {st pre : List Nat} {g : Nat → Nat} {reps : List Nat} (J : Marks M f st pre g reps) {s t : Nat} (hs : s ∈ pre) (ht : t ∈ pre) : g s = g t ↔ mkK M f st s = mkK M f st t := by
  obtain ⟨r, h1, h2⟩ := J.at' s hs
  obtain ⟨r', h3, h4⟩ := J.at' t ht
  constructor
  · intro e
    rw [e, h3] at h1
    cases h1
    rw [← h2, h4]
  · intro e
    have e1 : (reps.map (mkK M f st))[g s]? = some (mkK M f st s) := by rw [List.getElem?_map, h1, ← h2]; rfl
    have e2 : (reps.map (mkK M f st))[g t]? = some (mkK M f st s) := by rw [List.getElem?_map, h3, e, ← h4]; rfl
    exact (List.getElem?_inj (List.getElem?_eq_some_iff.mp e1).1 J.nd).mp (e1.trans e2.symm)
theorem Marks.old {M : Mch} {f : Nat → Nat} {st pre : List Nat} {g : Nat → Nat} {reps : List Nat} (J : Marks M f st pre g reps) {s i r : Nat} (hs : s ∉ pre) (hi : reps[i]? = some r) (e : mkK M f st r = mkK M f st s) : Marks M f st (pre ++ [s]) (fun x => if x = s then i else g x) reps :=
  ⟨J.nd, J.sub, fun x hx => by
    by_cases h : x = s
    · subst h; rw [if_pos rfl]; exact ⟨r, hi, e⟩
    · rw [if_neg h]
      rcases List.mem_append.mp hx with hx | hx
      · exact J.at' x hx
      · exact (h (List.mem_singleton.mp hx)).elim⟩
theorem Marks.new {M : Mch} {f : Nat → Nat} {st pre : List Nat} {g : Nat → Nat} {reps : List Nat} (J : Marks M f st pre g reps) {s : Nat} (hs : s ∉ pre) (hm : s ∈ st) (e : ∀ r ∈ reps, mkK M f st r ≠ mkK M f st s) : Marks M f st (pre ++ [s]) (fun x => if x = s then reps.length else g x) (reps ++ [s]) where
  nd := by
    rw [List.map_append]
    exact nodup_snoc J.nd fun h => by
      obtain ⟨r, h1, h2⟩ := List.mem_map.mp h
      exact e r h1 h2
  sub := fun r hr => (List.mem_append.mp hr).elim (J.sub r) fun h => by rw [List.mem_singleton.mp h]; exact hm
  at' := fun x hx => by
    by_cases h : x = s
    · subst h
      rw [if_pos rfl]
      exact ⟨x, by simp, rfl⟩
    · rw [if_neg h]
      rcases List.mem_append.mp hx with hx | hx
      · obtain ⟨r, h1, h2⟩ := J.at' x hx
        exact ⟨r, by rw [List.getElem?_append_left (List.getElem?_eq_some_iff.mp h1).1]; exact h1, h2⟩
      · exact (h (List.mem_singleton.mp hx)).elim
theorem Marks.finer {M : Mch} (ok : M.Ok) {f : Nat → Nat} {st : List Nat} {g : Nat → Nat} {reps : List Nat} {more : Nat} (J : Marks M f st st g reps) (C : Closed M st) (K : Sorts M st f more) : Finer M st f more g reps.length ∧ Sorts M st g reps.length := by
  have ge : ∀ s ∈ st, ∀ t ∈ st, g s = g t ↔ f s = f t ∧ ∀ c, cellK f st (M.nx s c) = cellK f st (M.nx t c) := fun s hs t ht => by
    rw [J.ix hs ht, mk_iff ok (C.lt s hs) (C.lt t ht)]
  refine ⟨⟨K.wit, ge, fun s hs => ?_⟩, ⟨⟨reps, J.sub, ?_, rfl⟩⟩, fun s hs t ht e => K.fin s hs t ht ((ge s hs t ht).mp e).1, fun s hs t ht e => (ge s hs t ht).mpr ⟨K.req s hs t ht e, cell_req C K.req hs ht e⟩⟩
  · obtain ⟨r, h1, _⟩ := J.at' s hs
    exact (List.getElem?_eq_some_iff.mp h1).1
  · have nd := J.nd
    unfold List.Nodup at nd ⊢
    rw [List.pairwise_map] at nd ⊢
    exact nd.imp_of_mem fun {a b} ha hb h e => h ((J.ix (J.sub a ha) (J.sub b hb)).mp e)
theorem parted_ok (w : World) (ds : List D) (S : HD) (Q : QD) (h : spParted ds S Q) : rd_parted w (ends Q) (pad 11 ds) S := by
  obtain ⟨M, b, st, rfl, ok, C, hne, q⟩ := h
  have n4 := ok.n4
  have l3 := ok.l3
  have hsl : (sizeLine : Nat) = 16777216 := rfl
  have stl : st.length ≤ 400 := Nat.le_trans (lt_len C.nd C.lt) n4
  unfold rd_parted
  -- sorts
  refine seq_step fun N1 hN1 => ?_
  generalize hg8 : gNameD 8 = g8
  walk_at "rdx"
  subst hg8
  let f0 : Nat → Nat := fun s => if M.fin s = true then 1 else 0
  refine fun hz => ⟨hz, dcD_st (fun s => natD (f0 s)) trivial st [] C.nd (fun s hs Q1 Q0 h => ?_) (hN1 _ _ ?_)⟩
  · have e1 := end_at ok (C.lt s hs)
    unfold endsD
    simp_all only [e1]
    show Q1 (.int s) (.int (if M.fin s = true then 1 else 0)) S
    have e2 : natD (f0 s) = .int (if M.fin s = true then 1 else 0) := by
      show D.int ((if M.fin s = true then 1 else 0 : Nat) : Int) = _
      cases M.fin s <;> rfl
    rw [← e2]
    exact h
  clear hN1 N1
  rw [List.nil_append]
  -- many, more
  refine seq_step fun N1 hN1 => ?_
  generalize hg8 : gNameD 8 = g8
  generalize htl : (tBin (rIxW w) (tSlot 3) (tSlot 8) : TED) = tl
  walk_at "rdx"
  subst hg8 htl
  refine fun hz => ⟨hz, lcD_pure (fun d => match d with | .int s => some (natD (f0 s.toNat)) | _ => none) trivial _ _ (fun d hd Q1 Q0 h => ?_) ?_⟩
  · obtain ⟨s, hs, rfl⟩ := List.mem_map.mp hd
    have e1 : getK (dnat (fun s => natD (f0 s)) st) (.inl (s : Int)) = some (natD (f0 s)) := by rw [getK_nat, if_pos hs]
    simp_all only [e1]
    exact h
  have efm : (st.map natD).filterMap (fun d => match d with | .int s => some (natD (f0 s.toNat)) | _ => none) = (st.map fun s => ((f0 s : Nat) : Int)).map D.int := by
    rw [List.filterMap_map, List.map_map, ← List.filterMap_eq_map]
    rfl
  rw [List.nil_append, efm]
  obtain ⟨dnd, dmem⟩ := dist_ok (st.map fun s => ((f0 s : Nat) : Int))
  generalize hd0 : dist (st.map fun s => ((f0 s : Nat) : Int)) = dd at dnd dmem
  simp_all only [intsOf_map, hd0, List.length_map]
  refine ⟨by omega, hN1 _ _ ?_⟩
  clear hN1 N1
  have J0 : Sorts M st f0 dd.length := by
    refine ⟨?_, fun s hs t ht e => ?_, fun s hs t ht e => ?_⟩
    · obtain ⟨qs, q1, q2⟩ := pick (f := fun s => ((f0 s : Nat) : Int)) (st := st) dd fun v hv => List.mem_map.mp ((dmem v).mp hv)
      refine ⟨qs, q1, ?_, by rw [← q2, List.length_map]⟩
      rw [← q2] at dnd
      unfold List.Nodup at dnd ⊢
      rw [List.pairwise_map] at dnd ⊢
      exact dnd.imp fun h e => h (by simp only [e])
    · have e' : (if M.fin s = true then 1 else 0 : Nat) = if M.fin t = true then 1 else 0 := e
      cases h1 : M.fin s <;> cases h2 : M.fin t <;> simp [h1, h2] at e' ⊢
    · have := e []
      rw [accF_nil, accF_nil] at this
      show (if M.fin s = true then 1 else 0 : Nat) = if M.fin t = true then 1 else 0
      rw [this]
  have hpos : 0 < dd.length := by
    cases st with
    | nil => exact (hne rfl).elim
    | cons s st => exact List.length_pos_of_mem ((dmem _).mpr (List.mem_map.mpr ⟨s, List.mem_cons_self, rfl⟩))
  -- the loop
  refine seq_step fun N1 hN1 => ?_
  let I : Nat → SD → HD → Prop := fun m σ S' => ∃ (f : Nat → Nat) (many more : Nat) (v6 v7 v8 v9 : Option D), σ = [some (rowsD b M), some (endsD b M), some (.lst (st.map natD)), some (.dic (dnat (fun s => natD (f s)) st)), some (natD many), some (natD more), v6, v7, v8, v9, none] ∧
    Up 0 S S' ∧ Sorts M st f more ∧ ((many = 0 ∧ 0 < more) ∨ ∃ p, Finer M st p many f more) ∧ m = st.length - many
  refine while_go I (n := _) (fun m σ S' N ⟨f, many, more, v6, v7, v8, v9, i1, i2, J, hF, em⟩ k => ?_) ⟨f0, 0, dd.length, _, _, _, _, rfl, .refl S, J0, .inl ⟨rfl, hpos⟩, rfl⟩
  subst i1
  by_cases hgt : many < more
  · have hlt : decide (((more : Nat) : Int) > ((many : Nat) : Int)) = true := decide_eq_true (by omega)
    generalize hB : (sSeqD (sPar3 _ _ _ _) _ : TSD) = T1
    simp_all only [hlt]
    subst hB
    -- many, places, later = more, {}, {}
    refine seq_step fun N2 hN2 => ?_
    walk_at "rdx"
    refine .inr fun pl hpl => .inl fun lt hlt2 => ?_
    walk_at "rdx"
    refine hN2 _ _ ?_
    clear hN2 N2
    have ne : lt ≠ pl := fun e => by rw [e, HD.set_same] at hlt2; cases hlt2
    have hl0 : S'.hp lt = none := by rw [HD.set_ne ne] at hlt2; exact hlt2
    have pl0 := i2.none hpl
    have lt0 := i2.none hl0
    -- for state in states
    refine seq_step fun N2 hN2 => ?_
    generalize hB : (sSeqD _ _ : TSD) = T1
    walk_at "rdx"
    subst hB
    refine fun hz => loopD_go (fun i σ S3 => ∃ (g : Nat → Nat) (reps : List Nat) (v8 v9 : Option D), σ = [some (rowsD b M), some (endsD b M), some (.lst (st.map natD)), some (.dic (dnat (fun s => natD (f s)) st)), some (natD more), some (natD more), some (.ref pl), some (.ref lt), v8, v9, none] ∧
        S3.hp pl = some (.dct w (plD (mkD M f st) 0 reps)) ∧ S3.hp lt = some (.dic (dnat (fun s => natD (g s)) (st.take i))) ∧ Up 0 S S3 ∧ Marks M f st (st.take i) g reps)
      ⟨fun _ => 0, [], _, _, rfl, by rw [HD.set_ne (Ne.symm ne), HD.set_same]; rfl, by rw [HD.set_same]; rfl, (i2.set pl0).set lt0, ⟨List.nodup_nil, fun r hr => (by cases hr), fun s hs => (by simp at hs)⟩⟩
      (fun i d σ S3 N3 hi ⟨g, reps, v8, v9, j1, j2, j3, j4, j5⟩ k3 => ⟨trivial, ?_⟩) fun σ S3 ⟨g, reps, v8, v9, j1, j2, j3, j4, j5⟩ => ⟨trivial, hN2 _ _ ?_⟩
    · subst j1
      rw [List.getElem?_map] at hi
      obtain ⟨s, hs, rfl⟩ := Option.map_eq_some_iff.mp hi
      have hil : i < st.length := (List.getElem?_eq_some_iff.mp hs).1
      have hsm := List.mem_of_getElem? hs
      have htk : st.take (i + 1) = st.take i ++ [s] := by rw [List.take_add_one, hs]; rfl
      have hns : s ∉ st.take i := fun h => by
        have nd := C.nd
        have e : st = st.take i ++ s :: st.drop (i + 1) := by
          have e1 := List.drop_eq_getElem_cons hil
          have e2 : st[i] = s := by rw [List.getElem?_eq_getElem hil] at hs; exact Option.some.inj hs
          rw [e2] at e1
          rw [← e1, List.take_append_drop]
        rw [e, List.nodup_append] at nd
        exact nd.2.2 s h s List.mem_cons_self rfl
      have e1 : getK (dnat (fun s => natD (f s)) st) (.inl (s : Int)) = some (natD (f s)) := by rw [getK_nat, if_pos hsm]
      obtain ⟨row, r1, r2, r3, r4⟩ := row_at ok b (C.lt s hsm)
      have erow : M.rowOf s = row := by unfold Mch.rowOf; rw [r1]; rfl
      -- mark
      refine seq_step fun N4 hN4 => ?_
      generalize hg10 : gNameD 10 = g10
      generalize htl : (tMethW w _ _ _ : TED) = tl
      unfold rowsD
      simp_all only [e1, r3]
      subst hg10 htl
      refine ⟨by decide, any_sq fun hz2 => ⟨hz2, lcD_pure (cellOf (dnat (fun s => natD (f s)) st)) trivial _ _ (fun d hd Q1 Q0 h => ?_) ?_⟩⟩
      · obtain ⟨c, hc, rfl⟩ := List.mem_map.mp hd
        cases c with
        | none =>
          walk_at "rdx"
          exact ⟨.inl ⟨_, rfl⟩, h⟩
        | some t =>
          walk_at "rdx"
          exact ⟨.inl ⟨_, rfl⟩, h⟩
      rw [List.nil_append, cells_of]
      refine ⟨by rw [List.length_map, r2]; omega, hN4 _ _ ?_⟩
      clear hN4 N4
      have emk : D.tup ([natD (f s)] ++ row.map (cellD f st)) = mkD M f st s := by unfold mkD; rw [erow]; rfl
      rw [emk]
      have ek := mk_key M f st s
      have ed := mk_dep M f st s
      have hrl : reps.length ≤ 400 := by
        refine Nat.le_trans (sub_len ?_ j5.sub) stl
        have nd := j5.nd
        unfold List.Nodup at nd ⊢
        rw [List.pairwise_map] at nd
        exact nd.imp fun h e => h (by rw [e])
      have hpl3 : isDic w S3 (.ref pl) := .inr ⟨plD (mkD M f st) 0 reps, by simp only [tdOf, j2]⟩
      have tdl : tdOf S3 (.ref lt) = none := by simp only [tdOf, j3]
      have hsd : hasK (dnat (fun s => natD (g s)) (st.take i)) (.inl (s : Int)) = false := by rw [hasK_nat]; exact decide_eq_false hns
      have eput : ∀ v : Nat, putD (dnat (fun s => natD (g s)) (st.take i)) (.inl (s : Int)) (natD v) = dnat (fun x => natD (if x = s then v else g x)) (st.take i ++ [s]) := fun v => by
        have e2 : dnat (fun s => natD (g s)) (st.take i) = dnat (fun x => natD (if x = s then v else g x)) (st.take i) := dnat_congr fun x hx => by
          have ne : x ≠ s := fun e => hns (e ▸ hx)
          simp only [ne, if_false]
        rw [e2]
        have := putD_new (fun x => natD (if x = s then v else g x)) hns
        simp only [if_true] at this
        exact this
      have lk : (st.take i).length ≤ 400 := by rw [List.length_take]; omega
      rcases getT_pl (mk := mkD M f st) (nk := mkK M f st) (fun r => keyT_nk (mk_key M f st r)) (mkK M f st s) reps 0 with ⟨g1, g2⟩ | ⟨i', r, g1, g2, g3⟩
      · have hpn : putT (plD (mkD M f st) 0 reps) (mkD M f st s) (mkK M f st s) (natD reps.length) = plD (mkD M f st) 0 (reps ++ [s]) := by
          unfold putT hasT
          rw [g1, plD_snoc, Nat.zero_add]
          rfl
        have j3' : (S3.set pl (.dct w (plD (mkD M f st) 0 (reps ++ [s])))).hp lt = some (.dic (dnat (fun s => natD (g s)) (st.take i))) := by rw [HD.set_ne ne]; exact j3
        simp_all only [j2, ek, g1, plD_len, hpn, j3', dnat_len]
        refine ⟨hpl3, ed, by omega, by omega, k3 _ _ ⟨_, reps ++ [s], _, _, rfl, ?_, ?_, (j4.set pl0).set lt0, by rw [htk]; exact j5.new hns hsm g2⟩⟩
        · rw [HD.set_ne (Ne.symm ne), HD.set_same]
        · rw [HD.set_same, htk, eput]
      · rw [Nat.zero_add] at g1
        simp_all only [j2, ek, g1, plD_len, j3, dnat_len]
        refine ⟨hpl3, ed, by omega, by omega, k3 _ _ ⟨_, reps, _, _, rfl, ?_, ?_, j4.set lt0, by rw [htk]; exact j5.old hns g2 g3⟩⟩
        · rw [HD.set_ne (Ne.symm ne)]; exact j2
        · rw [HD.set_same, htk, eput]
    · subst j1
      rw [List.length_map, List.take_length] at j3 j5
      obtain ⟨F2, J2⟩ := j5.finer ok C J
      have hml := J2.wit.le
      clear hN2 N2
      refine seq_step fun N2 hN2 => ?_
      refine ⟨_, _, CvS.frzD (i := 7) rfl j3, ?_⟩
      have j2' : (S3.del lt).hp pl = some (.dct w (plD (mkD M f st) 0 reps)) := by
        simp only [HD.del, Ne.symm ne, if_false]
        exact j2
      simp_all only [j2', plD_len]
      refine ⟨by decide, hN2 _ _ ?_⟩
      clear hN2 N2
      have hc : decide (((reps.length : Nat) : Int) > 400) = false := decide_eq_false (by omega)
      simp_all only [hc]
      exact k (st.length - more) _ _ (by rw [em]; have := J.wit.le; omega) ⟨g, more, reps.length, _, _, _, _, rfl, j4.del lt0, J2, .inr ⟨f, F2⟩, rfl⟩
  · have hlt : decide (((more : Nat) : Int) > ((many : Nat) : Int)) = false := decide_eq_false (by omega)
    generalize hB : (sSeqD (sPar3 _ _ _ _) _ : TSD) = T1
    simp_all only [hlt]
    refine hN1 _ _ ?_
    walk_at "rdx"
    rcases hF with ⟨h0, h1⟩ | ⟨p, F⟩
    · omega
    · exact i2.fin (q f (done C F J (by omega)))
end PM
end

section
local macro_rules | `(tactic| walk_at "rdx") => `(tactic| simp only [PD.pad, PD.gt_z, PD.gt_s, PD.st_z, PD.st_s, PD.sNextD, PD.sSeqD, PD.sBreakD, PD.sContD, PD.sDropD, PD.sRetD, PD.sRetND, PD.sIfD, PD.sNeverD, PD.sAsgD, PD.sPar2, PD.sPar3, PD.gNameD, PD.gNilD, PD.gConsD, PD.gTupD, PD.gSubD, PD.tNilD, PD.tConsD, PD.tTupD, PD.tLstV, PD.tLstR, PD.tBin, PD.tTst, PD.tAndD, PD.tOrD, PD.tNotD, PD.tIfD, PD.tAndV, PD.tOrV, PD.tNotV, PD.tUnD, PD.rNeg, PD.tCallD, PD.tSlot, PD.tCD, PD.tChainD, PD.rIsN, PD.rNotN, PD.rIsiD, PD.isi_non, PD.isi_bl, PD.isi_int, PD.isi_str, PD.isi_tup, PD.isi_lst, PD.isi_dic, PD.Ty.name, PD.rCmpI, PD.fLt, PD.fLe, PD.fGt, PD.fGe, PD.rAddD, PD.rSubD, PD.rFdivD, PD.rModD, PD.rPowD, PD.rMulD, PD.rAddR, PD.rMulR, PD.asSeq, PD.asLst, PD.rLenD, PD.rTupleD, PD.rListV, PD.rListR, PD.rIntD, PD.rBoolD, PD.rAbsD, PD.rIxD, PD.oNone, PD.oSome, PD.tSlD, PD.rSlD, PD.tRevTD, PD.rEqD, PD.rNeD, PD.nrm_non, PD.nrm_bl, PD.nrm_int, PD.nrm_str, PD.nrm_tup, PD.nrm_lst, PD.nrm_dic, PD.nrm_ref, PD.iSeqD, PD.iRng1D, PD.iRng2D, PD.sForD, PD.tLcV, PD.tLcR, PD.tYesD, PD.wipeD, PD.tMethL, PD.rAppD, PD.isRefL, PD.tDicV, PD.keyOf, PD.asDic, PD.srcD, PD.iAnyD, PD.iZipD, PD.iEnumD, PD.tDcV, PD.tDicR, PD.gSubX, PD.rSetX, PD.rIxX, PD.rInD, PD.rInX, PD.rInY, PD.rSumD, PD.tRevLD, PD.tRevX, PD.rSixD, PD.rJoinD, PD.tMethS, PD.rLixD, PD.rPopD, PD.rExtD, PD.tMethA, PD.rSetD, PD.rReprD, PD.eqk_int, PD.eqd_int, PD.eqk_str, PD.eqd_str, PD.eqk_lst0, PD.eqd_lst0, PD.eqk_tup0, PD.eqd_tup0, PD.tdOf, PD.rInW, PD.rIxW, PD.rSetW, PD.gSubW, PD.rLenW, PD.rGetW, PD.rGetAt, PD.tMethW, PD.rSetdW, PD.tDispR, PD.tPairsD, PD.putAll, PD.tDisp1T, PD.gSeqD, PD.rListW, PD.tLenSetD, ↓PM.asSeq_sq, ↓PM.asDic_sq, ↓PM.srcD_sq, ↓PM.tdOf_sq, ↓PM.rIxD_sq, Option.map_some, Option.bind_some, PD.spFn, PD.spDraw, reduceIte, true_and, and_true, or_false, false_or, Bool.not_true, Bool.not_false, Bool.false_eq_true, List.length_cons, List.length_nil, List.set_cons_zero, List.set_cons_succ, PD.HD.set_same, PD.HD.tick_hp, PD.HD.tick_c, PD.HD.tick_dk, PD.HD.set_c, PD.HD.set_dk])
local macro_rules | `(tactic| simp_all only [$xs,*]) => `(tactic| simp only [PD.pad, PD.gt_z, PD.gt_s, PD.st_z, PD.st_s, PD.sNextD, PD.sSeqD, PD.sBreakD, PD.sContD, PD.sDropD, PD.sRetD, PD.sRetND, PD.sIfD, PD.sNeverD, PD.sAsgD, PD.sPar2, PD.sPar3, PD.gNameD, PD.gNilD, PD.gConsD, PD.gTupD, PD.gSubD, PD.tNilD, PD.tConsD, PD.tTupD, PD.tLstV, PD.tLstR, PD.tBin, PD.tTst, PD.tAndD, PD.tOrD, PD.tNotD, PD.tIfD, PD.tAndV, PD.tOrV, PD.tNotV, PD.tUnD, PD.rNeg, PD.tCallD, PD.tSlot, PD.tCD, PD.tChainD, PD.rIsN, PD.rNotN, PD.rIsiD, PD.isi_non, PD.isi_bl, PD.isi_int, PD.isi_str, PD.isi_tup, PD.isi_lst, PD.isi_dic, PD.Ty.name, PD.rCmpI, PD.fLt, PD.fLe, PD.fGt, PD.fGe, PD.rAddD, PD.rSubD, PD.rFdivD, PD.rModD, PD.rPowD, PD.rMulD, PD.rAddR, PD.rMulR, PD.asSeq, PD.asLst, PD.rLenD, PD.rTupleD, PD.rListV, PD.rListR, PD.rIntD, PD.rBoolD, PD.rAbsD, PD.rIxD, PD.oNone, PD.oSome, PD.tSlD, PD.rSlD, PD.tRevTD, PD.rEqD, PD.rNeD, PD.nrm_non, PD.nrm_bl, PD.nrm_int, PD.nrm_str, PD.nrm_tup, PD.nrm_lst, PD.nrm_dic, PD.nrm_ref, PD.iSeqD, PD.iRng1D, PD.iRng2D, PD.sForD, PD.tLcV, PD.tLcR, PD.tYesD, PD.wipeD, PD.tMethL, PD.rAppD, PD.isRefL, PD.tDicV, PD.keyOf, PD.asDic, PD.srcD, PD.iAnyD, PD.iZipD, PD.iEnumD, PD.tDcV, PD.tDicR, PD.gSubX, PD.rSetX, PD.rIxX, PD.rInD, PD.rInX, PD.rInY, PD.rSumD, PD.tRevLD, PD.tRevX, PD.rSixD, PD.rJoinD, PD.tMethS, PD.rLixD, PD.rPopD, PD.rExtD, PD.tMethA, PD.rSetD, PD.rReprD, PD.eqk_int, PD.eqd_int, PD.eqk_str, PD.eqd_str, PD.eqk_lst0, PD.eqd_lst0, PD.eqk_tup0, PD.eqd_tup0, PD.tdOf, PD.rInW, PD.rIxW, PD.rSetW, PD.gSubW, PD.rLenW, PD.rGetW, PD.rGetAt, PD.tMethW, PD.rSetdW, PD.tDispR, PD.tPairsD, PD.putAll, PD.tDisp1T, PD.gSeqD, PD.rListW, PD.tLenSetD, ↓PM.asSeq_sq, ↓PM.asDic_sq, ↓PM.srcD_sq, ↓PM.tdOf_sq, ↓PM.rIxD_sq, Option.map_some, Option.bind_some, PD.spFn, PD.spDraw, reduceIte, true_and, and_true, or_false, false_or, Bool.not_true, Bool.not_false, Bool.false_eq_true, List.length_cons, List.length_nil, List.set_cons_zero, List.set_cons_succ, PD.HD.set_same, PD.HD.tick_hp, PD.HD.tick_c, PD.HD.tick_dk, PD.HD.set_c, PD.HD.set_dk, $xs,*])
/-! PN6: what shrunk makes, as plain mathematics. -/
namespace PM
open PySem PySem.Spec PyProof.Rows PD
def nxR (rows : List (List (Option Nat))) (i c : Nat) : Option Nat := ((rows[i]?).bind (·[c]?)).bind id
theorem nxR_snoc (fr : List (List (Option Nat))) (cur : List (Option Nat)) (x : Option Nat) (i c : Nat) : nxR (fr ++ [cur ++ [x]]) i c = if i = fr.length ∧ c = cur.length then x else nxR (fr ++ [cur]) i c := by
  unfold nxR
  by_cases hi : i < fr.length
  · rw [List.getElem?_append_left hi, List.getElem?_append_left hi, if_neg (by omega)]
  · by_cases he : i = fr.length
    · subst he
      simp only [List.getElem?_append_right (Nat.le_refl _), Nat.sub_self, List.getElem?_cons_zero, Option.bind_some, true_and]
      by_cases hc : c < cur.length
      · rw [List.getElem?_append_left hc, if_neg (by omega)]
      · by_cases hce : c = cur.length
        · subst hce
          simp
        · rw [if_neg hce, List.getElem?_eq_none (by simp; omega), List.getElem?_eq_none (by omega)]
    · rw [if_neg (by omega), List.getElem?_eq_none (by simp; omega), List.getElem?_eq_none (by simp; omega)]
theorem nxR_new (fr : List (List (Option Nat))) (i c : Nat) : nxR (fr ++ [[]]) i c = nxR fr i c := by
  unfold nxR
  by_cases hi : i < fr.length
  · rw [List.getElem?_append_left hi]
  · by_cases he : i = fr.length
    · subst he; simp
    · rw [List.getElem?_eq_none (by simp; omega), List.getElem?_eq_none (by omega)]
def Num (rows : List (List (Option Nat))) (n : Nat) : Prop := ∀ j, 0 < j → j < n → ∃ i c, i < j ∧ nxR rows i c = some j ∧ ∀ i' c' j', (i' < i ∨ (i' = i ∧ c' < c)) → nxR rows i' c' = some j' → j' < j
/-- a cell more that is no new number -/
theorem nxR_pos {fr : List (List (Option Nat))} {cur : List (Option Nat)} {i c j : Nat} (h : nxR (fr ++ [cur]) i c = some j) : i < fr.length ∨ (i = fr.length ∧ c < cur.length) := by
  unfold nxR at h
  by_cases hi : i < fr.length
  · exact .inl hi
  · by_cases he : i = fr.length
    · subst he
      simp only [List.getElem?_append_right (Nat.le_refl _), Nat.sub_self, List.getElem?_cons_zero, Option.bind_some] at h
      refine .inr ⟨rfl, ?_⟩
      apply Nat.lt_of_not_le
      intro z
      rw [List.getElem?_eq_none z] at h
      cases h
    · rw [List.getElem?_eq_none (by simp; omega)] at h
      cases h
theorem num_old {fr : List (List (Option Nat))} {cur : List (Option Nat)} {n : Nat} (h : Num (fr ++ [cur]) n) (x : Option Nat) : Num (fr ++ [cur ++ [x]]) n := fun j h0 hj => by
  obtain ⟨i, c, h1, h2, h3⟩ := h j h0 hj
  have hp := nxR_pos h2
  refine ⟨i, c, h1, by rw [nxR_snoc, if_neg (by omega)]; exact h2, fun i' c' j' ha hn => ?_⟩
  rw [nxR_snoc, if_neg (by omega)] at hn
  exact h3 i' c' j' ha hn
theorem num_new {fr : List (List (Option Nat))} {cur : List (Option Nat)} {n : Nat} (h : Num (fr ++ [cur]) n) (hb : ∀ i c j, nxR (fr ++ [cur]) i c = some j → j < n) (hf : fr.length < n) : Num (fr ++ [cur ++ [some n]]) (n + 1) := fun j h0 hj => by
  by_cases hjn : j < n
  · exact num_old h (some n) j h0 hjn
  · have : j = n := by omega
    subst this
    refine ⟨fr.length, cur.length, hf, by rw [nxR_snoc, if_pos ⟨rfl, rfl⟩], fun i' c' j' ha hn => ?_⟩
    rw [nxR_snoc, if_neg (by omega)] at hn
    exact hb i' c' j' hn
def CelOk (f : Nat → Nat) (st hs : List Nat) (x y : Option Nat) : Prop := (∃ t j h, x = some t ∧ t ∈ st ∧ y = some j ∧ hs[j]? = some h ∧ f h = f t) ∨ ((∀ t, x = some t → t ∉ st) ∧ y = none)
theorem CelOk.mono {f : Nat → Nat} {st hs : List Nat} {x y : Option Nat} (h : CelOk f st hs x y) (t : Nat) : CelOk f st (hs ++ [t]) x y := by
  rcases h with ⟨t', j, h', h1, h2, h3, h4, h5⟩ | h
  · exact .inl ⟨t', j, h', h1, h2, h3, by rw [List.getElem?_append_left (List.getElem?_eq_some_iff.mp h4).1]; exact h4, h5⟩
  · exact .inr h
structure ShI (M : Mch) (f : Nat → Nat) (st hs : List Nat) (rows : List (List (Option Nat))) : Prop where
  h0 : hs[0]? = some 0
  sub : ∀ h ∈ hs, h ∈ st
  nd : (hs.map f).Nodup
  rel : ∀ (i : Nat) (r : List (Option Nat)) (h : Nat), rows[i]? = some r → hs[i]? = some h → ∀ c, c < r.length → CelOk f st hs (M.nx h c) ((r[c]?).bind id)
  num : Num rows hs.length
  len : rows.length ≤ hs.length
theorem ShI.bnd {M : Mch} {f : Nat → Nat} {st hs : List Nat} {rows : List (List (Option Nat))} (J : ShI M f st hs rows) {i c j : Nat} (h : nxR rows i c = some j) : j < hs.length := by
  unfold nxR at h
  cases hr : rows[i]? with
  | none => rw [hr] at h; cases h
  | some r =>
    rw [hr, Option.bind_some] at h
    have hi := (List.getElem?_eq_some_iff.mp hr).1
    have hil : i < hs.length := Nat.lt_of_lt_of_le hi J.len
    have hc : c < r.length := by
      apply Nat.lt_of_not_le
      intro z
      rw [List.getElem?_eq_none z] at h
      cases h
    rcases J.rel i r _ hr (List.getElem?_eq_getElem hil) c hc with ⟨_, j', _, _, _, h3, h4, _⟩ | ⟨_, h3⟩
    · rw [h] at h3
      cases h3
      exact (List.getElem?_eq_some_iff.mp h4).1
    · rw [h] at h3
      cases h3
theorem ShI.hsnd {M : Mch} {f : Nat → Nat} {st hs : List Nat} {rows : List (List (Option Nat))} (J : ShI M f st hs rows) : hs.Nodup := by
  have nd := J.nd
  unfold List.Nodup at nd ⊢
  rw [List.pairwise_map] at nd
  exact nd.imp fun h e => h (by rw [e])
/-- a cell is put behind -/
theorem ShI.cell {M : Mch} {f : Nat → Nat} {st hs : List Nat} {fr : List (List (Option Nat))} {cur : List (Option Nat)} (J : ShI M f st hs (fr ++ [cur])) {h : Nat} (hh : hs[fr.length]? = some h) {x : Option Nat} (hx : CelOk f st hs (M.nx h cur.length) x) : ShI M f st hs (fr ++ [cur ++ [x]]) where
  h0 := J.h0
  sub := J.sub
  nd := J.nd
  rel := fun i r h' hr hh' c hc => by
    by_cases hi : i < fr.length
    · rw [List.getElem?_append_left hi] at hr
      exact J.rel i r h' (by rw [List.getElem?_append_left hi]; exact hr) hh' c hc
    · have hl := (List.getElem?_eq_some_iff.mp hr).1
      simp only [List.length_append, List.length_singleton] at hl
      have he : i = fr.length := by omega
      subst he
      simp only [List.getElem?_append_right (Nat.le_refl _), Nat.sub_self, List.getElem?_cons_zero, Option.some.injEq] at hr
      subst hr
      rw [hh] at hh'
      cases hh'
      by_cases hcl : c < cur.length
      · rw [List.getElem?_append_left hcl]
        exact J.rel fr.length cur h (by simp) hh c hcl
      · have : c = cur.length := by simp at hc; omega
        subst this
        simpa using hx
  num := num_old J.num x
  len := by have := J.len; simpa using this
/-- a new head, and its cell -/
theorem ShI.head {M : Mch} {f : Nat → Nat} {st hs : List Nat} {fr : List (List (Option Nat))} {cur : List (Option Nat)} (J : ShI M f st hs (fr ++ [cur])) {h t : Nat} (hh : hs[fr.length]? = some h) (hn : M.nx h cur.length = some t) (ht : t ∈ st) (hf : f t ∉ hs.map f) : ShI M f st (hs ++ [t]) (fr ++ [cur ++ [some hs.length]]) where
  h0 := by rw [List.getElem?_append_left (List.getElem?_eq_some_iff.mp J.h0).1]; exact J.h0
  sub := fun h' hm => (List.mem_append.mp hm).elim (J.sub h') fun e => by rw [List.mem_singleton.mp e]; exact ht
  nd := by rw [List.map_append]; exact nodup_snoc J.nd hf
  rel := fun i r h' hr hh' c hc => by
    have hil : i < hs.length := by
      have hl := (List.getElem?_eq_some_iff.mp hr).1
      have := J.len
      simp only [List.length_append, List.length_singleton] at hl this
      omega
    rw [List.getElem?_append_left hil] at hh'
    by_cases hi : i < fr.length
    · rw [List.getElem?_append_left hi] at hr
      exact (J.rel i r h' (by rw [List.getElem?_append_left hi]; exact hr) hh' c hc).mono t
    · have hl := (List.getElem?_eq_some_iff.mp hr).1
      simp only [List.length_append, List.length_singleton] at hl
      have he : i = fr.length := by omega
      subst he
      simp only [List.getElem?_append_right (Nat.le_refl _), Nat.sub_self, List.getElem?_cons_zero, Option.some.injEq] at hr
      subst hr
      rw [hh] at hh'
      cases hh'
      by_cases hcl : c < cur.length
      · rw [List.getElem?_append_left hcl]
        exact (J.rel fr.length cur h (by simp) hh c hcl).mono t
      · have : c = cur.length := by simp at hc; omega
        subst this
        rw [hn]
        exact .inl ⟨t, hs.length, t, rfl, ht, by simp, by simp, rfl⟩
  num := by
    rw [List.length_append, List.length_singleton]
    exact num_new J.num (fun i c j hj => J.bnd hj) (List.getElem?_eq_some_iff.mp hh).1
  len := by have := J.len; simp at this ⊢; omega
theorem ShI.row {M : Mch} {f : Nat → Nat} {st hs : List Nat} {fr : List (List (Option Nat))} (J : ShI M f st hs fr) (hl : fr.length < hs.length) : ShI M f st hs (fr ++ [[]]) where
  h0 := J.h0
  sub := J.sub
  nd := J.nd
  rel := fun i r h hr hh c hc => by
    by_cases hi : i < fr.length
    · rw [List.getElem?_append_left hi] at hr
      exact J.rel i r h hr hh c hc
    · have hl := (List.getElem?_eq_some_iff.mp hr).1
      simp only [List.length_append, List.length_singleton] at hl
      have he : i = fr.length := by omega
      subst he
      simp at hr
      subst hr
      cases hc
  num := fun j h0 hj => by
    obtain ⟨i, c, h1, h2, h3⟩ := J.num j h0 hj
    exact ⟨i, c, h1, by rw [nxR_new]; exact h2, fun i' c' j' ha hn => h3 i' c' j' ha (by rw [← nxR_new fr]; exact hn)⟩
  len := by simp; omega
/-- the whole machine -/
def mOf (M : Mch) (hs : List Nat) (fr : List (List (Option Nat))) : Mch := ⟨M.L, fr, hs.map M.fin⟩
theorem ShI.all {M : Mch} (ok : M.Ok) {f : Nat → Nat} {st hs : List Nat} {fr : List (List (Option Nat))} (C : Closed M st) (hf : ∀ s ∈ st, ∀ t ∈ st, f s = f t ↔ M.req s t) (J : ShI M f st hs fr) (hl : fr.length = hs.length) (hw : ∀ r ∈ fr, r.length = M.L) :
    (mOf M hs fr).Ok ∧ Red (mOf M hs fr) ∧ (∀ w, (mOf M hs fr).acc w = M.acc w) ∧ fr.length ≤ M.rows.length := by
  have h0l := (List.getElem?_eq_some_iff.mp J.h0).1
  have hsl : hs.length ≤ M.rows.length := lt_len J.hsnd fun h hm => C.lt h (J.sub h hm)
  have n4 := ok.n4
  have O : (mOf M hs fr).Ok := ⟨ok.l1, ok.l3, by show 1 ≤ fr.length; omega, by show fr.length ≤ 400; omega, by show (hs.map M.fin).length = fr.length; rw [List.length_map, hl], hw, fun r hr c hc t ht => by
    subst ht
    obtain ⟨i, hi⟩ := List.mem_iff_getElem?.mp hr
    obtain ⟨k, hk⟩ := List.mem_iff_getElem?.mp hc
    show t < fr.length
    rw [hl]
    have hi' : fr[i]? = some r := hi
    exact J.bnd (i := i) (c := k) (by unfold nxR; rw [hi', Option.bind_some, hk]; rfl)⟩
  have nxe : ∀ i c, (mOf M hs fr).nx i c = nxR fr i c := fun i c => rfl
  have fine : ∀ j h, hs[j]? = some h → (mOf M hs fr).fin j = M.fin h := fun j h hj => by
    show ((hs.map M.fin)[j]?).getD false = _
    rw [List.getElem?_map, hj]
    rfl
  have sim : ∀ (w : List Nat) (j h : Nat), hs[j]? = some h → (mOf M hs fr).accF j w = M.accF h w := by
    intro w
    induction w with
    | nil => intro j h hj; rw [accF_nil, accF_nil, fine j h hj]
    | cons c w ih =>
      intro j h hj
      have hjl : j < fr.length := by rw [hl]; exact (List.getElem?_eq_some_iff.mp hj).1
      have hr : fr[j]? = some fr[j] := by simp [hjl]
      have hrl := hw _ (List.getElem_mem hjl)
      rw [accF_cons, accF_cons, nxe]
      by_cases hc : c < M.L
      · have e1 : nxR fr j c = ((fr[j])[c]?).bind id := by unfold nxR; rw [hr]; rfl
        rcases J.rel j _ h hr hj c (by rw [hrl]; exact hc) with ⟨t, j2, h2, a1, a2, a3, a4, a5⟩ | ⟨a1, a2⟩
        · rw [e1, a3, a1]
          show (mOf M hs fr).accF j2 w = M.accF t w
          rw [ih j2 h2 a4]
          exact (hf h2 (J.sub h2 (List.mem_of_getElem? a4)) t a2).mp a5 w
        · rw [e1, a2]
          cases hn : M.nx h c with
          | none => rfl
          | some t =>
            show false = M.accF t w
            cases hv : M.accF t w with
            | false => rfl
            | true => exact (a1 t hn (C.cl h (J.sub h (List.mem_of_getElem? hj)) c t hn ⟨w, hv⟩)).elim
      · have e1 : nxR fr j c = none := by
          unfold nxR
          rw [hr, Option.bind_some, List.getElem?_eq_none (by omega)]
          rfl
        rw [e1, nx_ge ok (by omega)]
  refine ⟨O, ⟨fun j hj => ?_, fun j k hj hk e => ?_, fun j h0 hj => J.num j h0 (by rw [← hl]; exact hj)⟩, fun w => ?_, by omega⟩
  · have hj' : j < hs.length := by rw [← hl]; exact hj
    obtain ⟨w, hw⟩ := C.lv _ (J.sub _ (List.getElem_mem hj'))
    exact ⟨w, by rw [sim w j hs[j] (by simp [hj'])]; exact hw⟩
  · have hj' : j < hs.length := by rw [← hl]; exact hj
    have hk' : k < hs.length := by rw [← hl]; exact hk
    have e1 : hs[j]? = some hs[j] := by simp [hj']
    have e2 : hs[k]? = some hs[k] := by simp [hk']
    have e3 : f hs[j] = f hs[k] := (hf _ (J.sub _ (List.getElem_mem hj')) _ (J.sub _ (List.getElem_mem hk'))).mpr fun w => by rw [← sim w j _ e1, ← sim w k _ e2]; exact e w
    have e4 : (hs.map f)[j]? = (hs.map f)[k]? := by rw [List.getElem?_map, List.getElem?_map, e1, e2, Option.map_some, Option.map_some, e3]
    exact (List.getElem?_inj (by rw [List.length_map]; exact hj') J.nd).mp e4
  · exact sim w 0 0 J.h0
end PM
end

section
local macro_rules | `(tactic| walk_at "rdx") => `(tactic| simp only [PD.pad, PD.gt_z, PD.gt_s, PD.st_z, PD.st_s, PD.sNextD, PD.sSeqD, PD.sBreakD, PD.sContD, PD.sDropD, PD.sRetD, PD.sRetND, PD.sIfD, PD.sNeverD, PD.sAsgD, PD.sPar2, PD.sPar3, PD.gNameD, PD.gNilD, PD.gConsD, PD.gTupD, PD.gSubD, PD.tNilD, PD.tConsD, PD.tTupD, PD.tLstV, PD.tLstR, PD.tBin, PD.tTst, PD.tAndD, PD.tOrD, PD.tNotD, PD.tIfD, PD.tAndV, PD.tOrV, PD.tNotV, PD.tUnD, PD.rNeg, PD.tCallD, PD.tSlot, PD.tCD, PD.tChainD, PD.rIsN, PD.rNotN, PD.rIsiD, PD.isi_non, PD.isi_bl, PD.isi_int, PD.isi_str, PD.isi_tup, PD.isi_lst, PD.isi_dic, PD.Ty.name, PD.rCmpI, PD.fLt, PD.fLe, PD.fGt, PD.fGe, PD.rAddD, PD.rSubD, PD.rFdivD, PD.rModD, PD.rPowD, PD.rMulD, PD.rAddR, PD.rMulR, PD.asSeq, PD.asLst, PD.rLenD, PD.rTupleD, PD.rListV, PD.rListR, PD.rIntD, PD.rBoolD, PD.rAbsD, PD.rIxD, PD.oNone, PD.oSome, PD.tSlD, PD.rSlD, PD.tRevTD, PD.rEqD, PD.rNeD, PD.nrm_non, PD.nrm_bl, PD.nrm_int, PD.nrm_str, PD.nrm_tup, PD.nrm_lst, PD.nrm_dic, PD.nrm_ref, PD.iSeqD, PD.iRng1D, PD.iRng2D, PD.sForD, PD.tLcV, PD.tLcR, PD.tYesD, PD.wipeD, PD.tMethL, PD.rAppD, PD.isRefL, PD.tDicV, PD.keyOf, PD.asDic, PD.srcD, PD.iAnyD, PD.iZipD, PD.iEnumD, PD.tDcV, PD.tDicR, PD.gSubX, PD.rSetX, PD.rIxX, PD.rInD, PD.rInX, PD.rInY, PD.rSumD, PD.tRevLD, PD.tRevX, PD.rSixD, PD.rJoinD, PD.tMethS, PD.rLixD, PD.rPopD, PD.rExtD, PD.tMethA, PD.rSetD, PD.rReprD, PD.eqk_int, PD.eqd_int, PD.eqk_str, PD.eqd_str, PD.eqk_lst0, PD.eqd_lst0, PD.eqk_tup0, PD.eqd_tup0, PD.tdOf, PD.rInW, PD.rIxW, PD.rSetW, PD.gSubW, PD.rLenW, PD.rGetW, PD.rGetAt, PD.tMethW, PD.rSetdW, PD.tDispR, PD.tPairsD, PD.putAll, PD.tDisp1T, PD.gSeqD, PD.rListW, PD.tLenSetD, ↓PM.asSeq_sq, ↓PM.asDic_sq, ↓PM.srcD_sq, ↓PM.tdOf_sq, ↓PM.rIxD_sq, Option.map_some, Option.bind_some, PD.spFn, PD.spDraw, reduceIte, true_and, and_true, or_false, false_or, Bool.not_true, Bool.not_false, Bool.false_eq_true, List.length_cons, List.length_nil, List.set_cons_zero, List.set_cons_succ, PD.HD.set_same, PD.HD.tick_hp, PD.HD.tick_c, PD.HD.tick_dk, PD.HD.set_c, PD.HD.set_dk])
local macro_rules | `(tactic| simp_all only [$xs,*]) => `(tactic| simp only [PD.pad, PD.gt_z, PD.gt_s, PD.st_z, PD.st_s, PD.sNextD, PD.sSeqD, PD.sBreakD, PD.sContD, PD.sDropD, PD.sRetD, PD.sRetND, PD.sIfD, PD.sNeverD, PD.sAsgD, PD.sPar2, PD.sPar3, PD.gNameD, PD.gNilD, PD.gConsD, PD.gTupD, PD.gSubD, PD.tNilD, PD.tConsD, PD.tTupD, PD.tLstV, PD.tLstR, PD.tBin, PD.tTst, PD.tAndD, PD.tOrD, PD.tNotD, PD.tIfD, PD.tAndV, PD.tOrV, PD.tNotV, PD.tUnD, PD.rNeg, PD.tCallD, PD.tSlot, PD.tCD, PD.tChainD, PD.rIsN, PD.rNotN, PD.rIsiD, PD.isi_non, PD.isi_bl, PD.isi_int, PD.isi_str, PD.isi_tup, PD.isi_lst, PD.isi_dic, PD.Ty.name, PD.rCmpI, PD.fLt, PD.fLe, PD.fGt, PD.fGe, PD.rAddD, PD.rSubD, PD.rFdivD, PD.rModD, PD.rPowD, PD.rMulD, PD.rAddR, PD.rMulR, PD.asSeq, PD.asLst, PD.rLenD, PD.rTupleD, PD.rListV, PD.rListR, PD.rIntD, PD.rBoolD, PD.rAbsD, PD.rIxD, PD.oNone, PD.oSome, PD.tSlD, PD.rSlD, PD.tRevTD, PD.rEqD, PD.rNeD, PD.nrm_non, PD.nrm_bl, PD.nrm_int, PD.nrm_str, PD.nrm_tup, PD.nrm_lst, PD.nrm_dic, PD.nrm_ref, PD.iSeqD, PD.iRng1D, PD.iRng2D, PD.sForD, PD.tLcV, PD.tLcR, PD.tYesD, PD.wipeD, PD.tMethL, PD.rAppD, PD.isRefL, PD.tDicV, PD.keyOf, PD.asDic, PD.srcD, PD.iAnyD, PD.iZipD, PD.iEnumD, PD.tDcV, PD.tDicR, PD.gSubX, PD.rSetX, PD.rIxX, PD.rInD, PD.rInX, PD.rInY, PD.rSumD, PD.tRevLD, PD.tRevX, PD.rSixD, PD.rJoinD, PD.tMethS, PD.rLixD, PD.rPopD, PD.rExtD, PD.tMethA, PD.rSetD, PD.rReprD, PD.eqk_int, PD.eqd_int, PD.eqk_str, PD.eqd_str, PD.eqk_lst0, PD.eqd_lst0, PD.eqk_tup0, PD.eqd_tup0, PD.tdOf, PD.rInW, PD.rIxW, PD.rSetW, PD.gSubW, PD.rLenW, PD.rGetW, PD.rGetAt, PD.tMethW, PD.rSetdW, PD.tDispR, PD.tPairsD, PD.putAll, PD.tDisp1T, PD.gSeqD, PD.rListW, PD.tLenSetD, ↓PM.asSeq_sq, ↓PM.asDic_sq, ↓PM.srcD_sq, ↓PM.tdOf_sq, ↓PM.rIxD_sq, Option.map_some, Option.bind_some, PD.spFn, PD.spDraw, reduceIte, true_and, and_true, or_false, false_or, Bool.not_true, Bool.not_false, Bool.false_eq_true, List.length_cons, List.length_nil, List.set_cons_zero, List.set_cons_succ, PD.HD.set_same, PD.HD.tick_hp, PD.HD.tick_c, PD.HD.tick_dk, PD.HD.set_c, PD.HD.set_dk, $xs,*])
/-! PN7: shrunk, smallest. -/
namespace PM
open PySem PySem.Spec PyProof.Rows PD
def plN (f : Nat → Nat) (n : Nat) : List Nat → List (D × D)
  | [] => []
  | r :: rs => (natD (f r), natD n) :: plN f (n + 1) rs
theorem plN_len (f : Nat → Nat) : ∀ (rs : List Nat) (n : Nat), (plN f n rs).length = rs.length
  | [], _ => rfl
  | r :: rs, n => by simp [plN, plN_len f rs (n + 1)]
theorem plN_snoc (f : Nat → Nat) (s : Nat) : ∀ (rs : List Nat) (n : Nat), plN f n (rs ++ [s]) = plN f n rs ++ [(natD (f s), natD (n + rs.length))]
  | [], n => rfl
  | r :: rs, n => by
    show (natD (f r), natD n) :: plN f (n + 1) (rs ++ [s]) = _
    rw [plN_snoc f s rs (n + 1)]
    simp only [List.length_cons]
    rw [show n + 1 + rs.length = n + (rs.length + 1) by omega]
    rfl
theorem getK_pl (f : Nat → Nat) (v : Nat) : ∀ (rs : List Nat) (n : Nat), (getK (plN f n rs) (.inl (v : Int)) = none ∧ v ∉ rs.map f) ∨ ∃ i r, getK (plN f n rs) (.inl (v : Int)) = some (natD (n + i)) ∧ rs[i]? = some r ∧ f r = v
  | [], _ => .inl ⟨rfl, by simp⟩
  | r :: rs, n => by
    by_cases e : f r = v
    · refine .inr ⟨0, r, ?_, rfl, e⟩
      show (if keyOf (natD (f r)) = some (.inl (v : Int)) then some (natD n) else _) = _
      rw [if_pos (by rw [e]; rfl)]
      rfl
    · have e1 : getK (plN f n (r :: rs)) (.inl (v : Int)) = getK (plN f (n + 1) rs) (.inl (v : Int)) := by
        show (if keyOf (natD (f r)) = some (.inl (v : Int)) then some (natD n) else _) = _
        refine if_neg fun q => e ?_
        have q' : (some (Sum.inl (f r : Int)) : Option L2.Key) = some (Sum.inl (v : Int)) := q
        have := Sum.inl.inj (Option.some.inj q')
        omega
      rcases getK_pl f v rs (n + 1) with ⟨h1, h2⟩ | ⟨i, r', h1, h2, h3⟩
      · exact .inl ⟨by rw [e1, h1], by rw [List.map_cons, List.mem_cons]; exact fun z => z.elim (fun z => e z.symm) h2⟩
      · exact .inr ⟨i + 1, r', by rw [e1, h1, show n + 1 + i = n + (i + 1) by omega], by simpa using h2, h3⟩
theorem putD_pl (f : Nat → Nat) {t : Nat} {rs : List Nat} (h : getK (plN f 0 rs) (.inl (f t : Int)) = none) : putD (plN f 0 rs) (.inl (f t : Int)) (natD rs.length) = plN f 0 (rs ++ [t]) := by
  unfold putD hasK
  rw [h, plN_snoc, Nat.zero_add]
  rfl
def filtF (ls : List Nat) : D → Option D
  | .int s => if s.toNat ∈ ls then some (.int s) else none
  | _ => none
theorem filtF_nat (ls : List Nat) (s : Nat) : filtF ls (natD s) = if s ∈ ls then some (natD s) else none := by
  show (if ((s : Nat) : Int).toNat ∈ ls then some (natD s) else none) = _
  rw [Int.toNat_natCast]
theorem filtF_map (ls : List Nat) : ∀ ms : List Nat, (ms.map natD).filterMap (filtF ls) = (ms.filter fun s => decide (s ∈ ls)).map natD
  | [] => rfl
  | x :: ms => by
    rw [List.map_cons, List.filterMap_cons, List.filter_cons, filtF_nat, filtF_map ls ms]
    by_cases hx : x ∈ ls
    · simp only [hx, if_true, decide_true, List.map_cons]
    · simp only [hx, if_false, decide_false, Bool.false_eq_true]
def spShrunk : SpD := fun ds S Q => ∃ (M : Mch) (b : Bool), ds = [natD M.L, rowsD b M, endsD b M] ∧ M.Ok ∧ ∀ M' : Mch, M'.Ok → Smallest M' → M'.L = M.L → (∀ w, M'.acc w = M.acc w) → M'.rows.length ≤ M.rows.length → Q (enc M') S
theorem shrunk_len (ds : List D) (S : HD) (Q : QD) (h : spShrunk ds S Q) : ds.length = 3 := by
  obtain ⟨_, _, rfl, _⟩ := h
  rfl
theorem triv_row : ∀ n : Nat, (List.replicate n [D.non]).flatten = (List.replicate n (none : Option Nat)).map encC
  | 0 => rfl
  | n + 1 => by
    rw [List.replicate_succ, List.flatten_cons, triv_row n, List.replicate_succ, List.map_cons]
    rfl
theorem triv_ok {L : Nat} (h1 : 1 ≤ L) (h3 : L ≤ 3) : (triv L).Ok := ⟨h1, h3, Nat.le_refl _, by show 1 ≤ 400; decide, rfl, fun r hr => by
    have hr' : r ∈ [List.replicate L (none : Option Nat)] := hr
    rw [List.mem_singleton.mp hr']; exact List.length_replicate, fun r hr c hc t ht => by
    have hr' : r ∈ [List.replicate L (none : Option Nat)] := hr
    rw [List.mem_singleton.mp hr'] at hc
    rw [List.eq_of_mem_replicate hc] at ht
    cases ht⟩
theorem triv_acc {L : Nat} (w : List Nat) : (triv L).acc w = false := by
  have nx : ∀ s c, (triv L).nx s c = none := fun s c => by
    unfold Mch.nx triv
    cases s with
    | zero =>
      simp only [List.getElem?_cons_zero, Option.bind_some, List.getElem?_replicate]
      split <;> rfl
    | succ s => simp
  cases w with
  | nil => rfl
  | cons c w =>
    rw [acc_F, accF_cons, nx]
theorem shrunk_ok (ds : List D) (S : HD) (Q : QD) (h : spShrunk ds S Q) : rd_shrunk spLiv spParted spMet (ends Q) (pad 11 ds) S := by
  obtain ⟨M, b, rfl, ok, q⟩ := h
  have n4 := ok.n4
  have l3 := ok.l3
  have hsl : (sizeLine : Nat) = 16777216 := rfl
  unfold rd_shrunk
  -- alive
  refine seq_step fun N1 hN1 => ?_
  walk_at "rdx"
  refine ⟨M, b, rfl, ok, fun ls lnd lmem => hN1 _ _ ?_⟩
  clear hN1 N1
  have hk0 := hasK_nat (fun _ => D.bl true) 0 ls
  simp only [Int.natCast_zero] at hk0
  -- if 0 not in alive
  refine seq_step fun N1 hN1 => ?_
  by_cases h0 : 0 ∈ ls
  case neg =>
    simp_all only [hk0, h0, decide_false]
    refine ⟨by decide, ⟨by omega, by omega, by decide⟩, by decide, by decide, by decide, ?_⟩
    refine fin.here ?_
    have := q (triv M.L) (triv_ok ok.l1 ok.l3) (.inr ⟨rfl, triv_acc⟩) rfl (fun w => ?_) ok.n1
    · unfold enc triv encR at this
      simp only [List.map_cons, List.map_nil] at this
      rw [show ((M.L : Nat) : Int).toNat = M.L from rfl, triv_row]
      exact this
    · rw [triv_acc]
      cases hv : M.acc w with
      | false => rfl
      | true => exact (h0 ((lmem 0).mpr ⟨w, hv⟩)).elim
  simp_all only [hk0, h0, decide_true]
  refine hN1 _ _ ?_
  clear hN1 N1
  -- sorts
  refine seq_step fun N1 hN1 => ?_
  generalize hg10 : gNameD 10 = g10
  generalize htt : (tTst (tBin (rInY false) _ _) : TTD) = tt
  walk_at "rdx"
  subst hg10 htt
  refine ⟨M, b, rfl, ok, fun ms mnd mmem => fun hz => ⟨hz, lcD_pure (filtF ls) trivial _ _ (fun d hd Q1 Q0 h => ?_) ?_⟩⟩
  · obtain ⟨s, hs, rfl⟩ := List.mem_map.mp hd
    have e1 := hasK_nat (fun _ => D.bl true) s ls
    by_cases hm : s ∈ ls
    · rw [filtF_nat, if_pos hm] at h
      simp_all only [e1, hm, decide_true]
      exact h
    · rw [filtF_nat, if_neg hm] at h
      simp_all only [e1, hm, decide_false]
      exact h
  rw [List.nil_append, filtF_map]
  generalize hst : (ms.filter fun s => decide (s ∈ ls)) = st
  have stm : ∀ s, s ∈ st ↔ M.reach s ∧ M.live s := fun s => by
    rw [← hst, List.mem_filter, mmem, decide_eq_true_iff, lmem]
  have C : Closed M st := by
    refine ⟨?_, fun s hs => ?_, fun s hs => ((stm s).mp hs).2, fun s hs c t hn hl => (stm t).mpr ⟨reach_nx ((stm s).mp hs).1 hn, hl⟩⟩
    · rw [← hst]; exact List.Pairwise.filter _ mnd
    · obtain ⟨w, hw⟩ := ((stm s).mp hs).1
      exact run_lt ok w (some 0) s (fun t e => by cases e; exact ok.n1) hw
  have z0 : 0 ∈ st := (stm 0).mpr ⟨reach_0 M, (lmem 0).mp h0⟩
  refine ⟨M, b, st, rfl, ok, C, fun e => (by rw [e] at z0; cases z0), fun f hf => hN1 _ _ ?_⟩
  clear hN1 N1
  have e00 : getK (dnat (fun s => natD (f s)) st) (.inl 0) = some (natD (f 0)) := by
    have := getK_nat (fun s => natD (f s)) 0 st
    rw [if_pos z0] at this
    exact this
  -- heads, places, found
  refine seq_step fun N1 hN1 => ?_
  simp_all only [e00]
  refine ⟨by decide, fun p1 hp1 => ⟨by decide, fun p2 hp2 => ⟨by decide, fun p3 hp3 => hN1 _ _ ?_⟩⟩⟩
  clear hN1 N1
  have n21 : p2 ≠ p1 := fun e => by rw [e, HD.set_same] at hp2; cases hp2
  have n31 : p3 ≠ p1 := fun e => by rw [e, HD.set_ne (Ne.symm n21), HD.set_same] at hp3; cases hp3
  have n32 : p3 ≠ p2 := fun e => by rw [e, HD.set_same] at hp3; cases hp3
  have z2 : S.hp p2 = none := by rw [HD.set_ne n21] at hp2; exact hp2
  have z3 : S.hp p3 = none := by rw [HD.set_ne n32, HD.set_ne n31] at hp3; exact hp3
  -- the rows
  refine seq_step fun N1 hN1 => ?_
  let I : Nat → SD → HD → Prop := fun m σ S' => ∃ (hs : List Nat) (fr : List (List (Option Nat))) (v8 v9 : Option D), σ = [some (natD M.L), some (rowsD b M), some (endsD b M), some (.dic (dnat (fun _ => .bl true) ls)), some (.dic (dnat (fun s => natD (f s)) st)), some (.ref p1), some (.ref p2), some (.ref p3), v8, v9, none] ∧
    S'.hp p1 = some (.lst (hs.map natD)) ∧ S'.hp p2 = some (.dic (plN f 0 hs)) ∧ S'.hp p3 = some (.lst (fr.map encR)) ∧ Up 0 S S' ∧ ShI M f st hs fr ∧ (∀ r ∈ fr, r.length = M.L) ∧ m = M.rows.length - fr.length
  refine while_go I (n := _) (fun m σ S' N ⟨hs, fr, v8, v9, e0, e1, e2, e3, u, J, hw, em⟩ k => ?_) ⟨[0], [], _, _, rfl, ?_, ?_, HD.set_same, (((Up.refl S).new hp1).set z2).set z3, ⟨rfl, fun h hh => by rw [List.mem_singleton.mp hh]; exact z0, by simp, fun i r h hr => (by simp at hr), fun j h0 hj => (by simp at hj; omega), by simp⟩, fun r hr => (by cases hr), rfl⟩
  · rw [HD.set_ne (Ne.symm n31), HD.set_ne (Ne.symm n21), HD.set_same]; rfl
  · rw [HD.set_ne (Ne.symm n32), HD.set_same]; rfl
  subst e0
  have hsn := lt_len J.hsnd fun h hm => C.lt h (J.sub h hm)
  by_cases hlt : fr.length < hs.length
  case neg =>
    have hl : decide (((fr.length : Nat) : Int) < ((hs.length : Nat) : Int)) = false := decide_eq_false (by omega)
    generalize hB : (sSeqD (sAsgD (tLstR tNilD) _) _ : TSD) = T1
    simp_all only [e1, e3, List.length_map, hl]
    clear hB T1
    refine hN1 _ _ ?_
    have J' := J.len
    have hle : fr.length = hs.length := by omega
    obtain ⟨O, R, A, Ln⟩ := J.all ok C hf hle hw
    generalize hg10 : gNameD 10 = g10
    generalize htb : (tCallD rBoolD _ : TED) = tb
    simp_all only [e1, e3]
    subst hg10 htb
    refine fun hz => ⟨hz, lcD_pure (fun d => match d with | .int s => some (.bl (M.fin s.toNat)) | _ => none) e1 _ _ (fun d hd Q1 Q0 h => ?_) ⟨by decide, ?_⟩⟩
    · obtain ⟨s, hs', rfl⟩ := List.mem_map.mp hd
      have e4 := end_at ok (C.lt s (J.sub s hs'))
      unfold endsD
      simp_all only [e4]
      exact h
    · have efm : (hs.map natD).filterMap (fun d => match d with | .int s => some (D.bl (M.fin s.toNat)) | _ => none) = (hs.map M.fin).map .bl := by
        rw [List.filterMap_map, List.map_map, ← List.filterMap_eq_map]
        rfl
      rw [List.nil_append, efm]
      exact u.fin (q (mOf M hs fr) O (.inl R) rfl A Ln)
  have hl : decide (((fr.length : Nat) : Int) < ((hs.length : Nat) : Int)) = true := decide_eq_true (by omega)
  generalize hB : (sSeqD (sAsgD (tLstR tNilD) _) _ : TSD) = T1
  simp_all only [e1, e3, List.length_map, hl]
  subst hB
  -- row = []
  refine seq_step fun N2 hN2 => ?_
  walk_at "rdx"
  refine ⟨by decide, fun p4 hp4 => hN2 _ _ ?_⟩
  clear hN2 N2
  have n41 : p1 ≠ p4 := fun e => by rw [← e, e1] at hp4; cases hp4
  have n42 : p2 ≠ p4 := fun e => by rw [← e, e2] at hp4; cases hp4
  have n43 : p3 ≠ p4 := fun e => by rw [← e, e3] at hp4; cases hp4
  have z4 := u.none hp4
  have hh : hs[fr.length]? = some hs[fr.length] := by simp [hlt]
  generalize hs[fr.length] = h at hh
  have hhm := List.mem_of_getElem? hh
  obtain ⟨row, r1, r2, r3, r4⟩ := row_at ok b (C.lt h (J.sub h hhm))
  have a1 := atI_nat' (f := natD) hh
  have b1 : (S'.set p4 (.lst [])).hp p1 = some (.lst (hs.map natD)) := by rw [HD.set_ne n41]; exact e1
  have b2 : (S'.set p4 (.lst [])).hp p2 = some (.dic (plN f 0 hs)) := by rw [HD.set_ne n42]; exact e2
  have b3 : (S'.set p4 (.lst [])).hp p3 = some (.lst (fr.map encR)) := by rw [HD.set_ne n43]; exact e3
  have b4 : (S'.set p4 (.lst [])).hp p4 = some (.lst []) := HD.set_same
  have u4 := u.set (o := .lst []) z4
  generalize hS4 : S'.set p4 (.lst []) = S4 at b1 b2 b3 b4 u4
  -- for item in row
  refine seq_step fun N2 hN2 => ?_
  generalize hB : (sSeqD (sIfD _ _ _) _ : TSD) = T1
  unfold rowsD
  simp_all only [b1, b3, a1, r3, List.length_map]
  subst hB
  refine any_sq fun hz => loopD_go (fun i σ S3 => ∃ (hs2 : List Nat) (cur : List (Option Nat)) (v9 : Option D), σ = [some (natD M.L), some (rowsD b M), some (endsD b M), some (.dic (dnat (fun _ => .bl true) ls)), some (.dic (dnat (fun s => natD (f s)) st)), some (.ref p1), some (.ref p2), some (.ref p3), some (.ref p4), v9, none] ∧
      S3.hp p1 = some (.lst (hs2.map natD)) ∧ S3.hp p2 = some (.dic (plN f 0 hs2)) ∧ S3.hp p3 = some (.lst (fr.map encR)) ∧ S3.hp p4 = some (.lst (cur.map encC)) ∧ Up 0 S S3 ∧ ShI M f st hs2 (fr ++ [cur]) ∧ cur.length = i ∧ hs2[fr.length]? = some h)
    ⟨hs, [], _, rfl, b1, b2, b3, b4, u4, J.row hlt, rfl, hh⟩
    (fun i d σ S3 N3 hi ⟨hs2, cur, v9, j0, j1, j2, j3, j4, j5, j6, j7, j8⟩ k3 => ⟨trivial, ?_⟩) fun σ S3 ⟨hs2, cur, v9, j0, j1, j2, j3, j4, j5, j6, j7, j8⟩ => ⟨trivial, hN2 _ _ ?_⟩
  · subst j0
    obtain ⟨c, hc, rfl⟩ := encC_get hi
    have hn : M.nx h cur.length = c := by rw [j7, ← r4, hc]; rfl
    have hil : i < M.L := by rw [← r2]; exact (List.getElem?_eq_some_iff.mp hc).1
    have hh2 := lt_len j6.hsnd fun h hm => C.lt h (j6.sub h hm)
    refine seq_step fun N4 hN4 => ?_
    have skip : ∀ x, CelOk f st hs2 (M.nx h cur.length) x → (∀ S5, S5 = S3.set p4 (.lst ((cur ++ [x]).map encC)) → N3 [some (natD M.L), some (rowsD b M), some (endsD b M), some (.dic (dnat (fun _ => .bl true) ls)), some (.dic (dnat (fun s => natD (f s)) st)), some (.ref p1), some (.ref p2), some (.ref p3), some (.ref p4), some (encC c), none] S5) := fun x hx S5 eS5 => by
      subst eS5
      refine k3 _ _ ⟨hs2, cur ++ [x], _, rfl, ?_, ?_, ?_, HD.set_same, j5.set z4, j6.cell j8 hx, by rw [List.length_append, j7]; rfl, j8⟩
      · rw [HD.set_ne n41]; exact j1
      · rw [HD.set_ne n42]; exact j2
      · rw [HD.set_ne n43]; exact j3
    cases c with
    | none =>
      simp_all only [encC]
      refine hN4 _ _ ?_
      simp_all only [j4, encC, List.length_map]
      refine ⟨⟨_, rfl⟩, by omega, ?_⟩
      have := skip none (.inr ⟨fun t e => (by rw [hn] at e; cases e), rfl⟩) _ rfl
      rw [List.map_append] at this
      exact this
    | some t =>
      have s1 := hasK_nat (fun s => natD (f s)) t st
      by_cases ht : t ∈ st
      case neg =>
        simp_all only [encC, s1, ht, decide_false]
        refine hN4 _ _ ?_
        simp_all only [j4, s1, ht, decide_false, List.length_map]
        refine ⟨⟨_, rfl⟩, by omega, ?_⟩
        have := skip none (.inr ⟨fun t' e => (by rw [hn] at e; cases e; exact ht), rfl⟩) _ rfl
        rw [List.map_append] at this
        exact this
      have s2 : getK (dnat (fun s => natD (f s)) st) (.inl (t : Int)) = some (natD (f t)) := by rw [getK_nat, if_pos ht]
      rcases getK_pl f (f t) hs2 0 with ⟨g1, g2⟩ | ⟨i', r', g1, g2, g3⟩
      · have g1' : hasK (plN f 0 hs2) (.inl (f t : Int)) = false := by unfold hasK; rw [g1]; rfl
        have w1 : (S3.set p2 (.dic (plN f 0 (hs2 ++ [t])))).hp p1 = some (.lst (hs2.map natD)) := by rw [HD.set_ne (Ne.symm n21)]; exact j1
        have ep := putD_pl f g1
        simp_all only [encC, s1, s2, ht, decide_true, j1, j2, g1', plN_len, List.length_map, ep, w1]
        refine ⟨by omega, ⟨_, rfl⟩, by omega, hN4 _ _ ?_⟩
        have eh : hs2.map natD ++ [natD t] = (hs2 ++ [t]).map natD := by simp
        rw [eh]
        generalize hS6 : ((S3.set p2 (.dic (plN f 0 (hs2 ++ [t])))).set p1 (.lst ((hs2 ++ [t]).map natD))) = S6
        have x1 : S6.hp p1 = some (.lst ((hs2 ++ [t]).map natD)) := by rw [← hS6, HD.set_same]
        have x2 : S6.hp p2 = some (.dic (plN f 0 (hs2 ++ [t]))) := by rw [← hS6, HD.set_ne n21, HD.set_same]
        have x3 : S6.hp p3 = some (.lst (fr.map encR)) := by rw [← hS6, HD.set_ne n31, HD.set_ne n32]; exact j3
        have x4 : S6.hp p4 = some (.lst (cur.map encC)) := by rw [← hS6, HD.set_ne (Ne.symm n41), HD.set_ne (Ne.symm n42)]; exact j4
        have x5 : Up 0 S S6 := by rw [← hS6]; exact (j5.set z2).set hp1
        have g4 : getK (plN f 0 (hs2 ++ [t])) (.inl (f t : Int)) = some (natD hs2.length) := by
          rcases getK_pl f (f t) (hs2 ++ [t]) 0 with ⟨_, y2⟩ | ⟨i', r', y1, y2, y3⟩
          · exact (y2 (by simp)).elim
          · rw [y1, Nat.zero_add]
            by_cases hi' : i' < hs2.length
            · rw [List.getElem?_append_left hi'] at y2
              exact (g2 (List.mem_map.mpr ⟨r', List.mem_of_getElem? y2, y3⟩)).elim
            · have := (List.getElem?_eq_some_iff.mp y2).1
              simp at this
              rw [show i' = hs2.length by omega]
        simp_all only [s1, s2, ht, decide_true, x2, g4, x4, List.length_map]
        refine ⟨⟨_, rfl⟩, by omega, k3 _ _ ⟨hs2 ++ [t], cur ++ [some hs2.length], _, rfl, ?_, ?_, ?_, ?_, x5.set z4, j6.head j8 hn ht g2, by rw [List.length_append, j7]; rfl, ?_⟩⟩
        · rw [HD.set_ne n41]; exact x1
        · rw [HD.set_ne n42]; exact x2
        · rw [HD.set_ne n43]; exact x3
        · rw [HD.set_same, List.map_append]; rfl
        · rw [List.getElem?_append_left (List.getElem?_eq_some_iff.mp j8).1]; exact j8
      · rw [Nat.zero_add] at g1
        have g1' : hasK (plN f 0 hs2) (.inl (f t : Int)) = true := by unfold hasK; rw [g1]; rfl
        simp_all only [encC, s1, s2, ht, decide_true, j2, g1']
        refine hN4 _ _ ?_
        simp_all only [s1, s2, ht, decide_true, j2, g1, j4, List.length_map]
        refine ⟨⟨_, rfl⟩, by omega, ?_⟩
        have := skip (some i') (.inl ⟨t, i', r', by rw [hn], ht, rfl, g2, g3⟩) _ rfl
        rw [List.map_append] at this
        exact this
  · subst j0
    rw [List.length_map] at j7
    clear hN2 N2
    simp_all only [j3, j4, List.length_map]
    refine ⟨⟨_, rfl⟩, by omega, k (M.rows.length - (fr ++ [cur]).length) _ _ ?_ ⟨hs2, fr ++ [cur], _, _, rfl, ?_, ?_, ?_, j5.set z3, j6, fun r hr => ?_, rfl⟩⟩
    · simp; omega
    · rw [HD.set_ne (Ne.symm n31)]; exact j1
    · rw [HD.set_ne (Ne.symm n32)]; exact j2
    · rw [HD.set_same, List.map_append]; rfl
    · rcases List.mem_append.mp hr with h | h
      · exact hw r h
      · rw [List.mem_singleton.mp h, j7, r2]
end PM
end

section
local macro_rules | `(tactic| walk_at "rdx") => `(tactic| simp only [PD.pad, PD.gt_z, PD.gt_s, PD.st_z, PD.st_s, PD.sNextD, PD.sSeqD, PD.sBreakD, PD.sContD, PD.sDropD, PD.sRetD, PD.sRetND, PD.sIfD, PD.sNeverD, PD.sAsgD, PD.sPar2, PD.sPar3, PD.gNameD, PD.gNilD, PD.gConsD, PD.gTupD, PD.gSubD, PD.tNilD, PD.tConsD, PD.tTupD, PD.tLstV, PD.tLstR, PD.tBin, PD.tTst, PD.tAndD, PD.tOrD, PD.tNotD, PD.tIfD, PD.tAndV, PD.tOrV, PD.tNotV, PD.tUnD, PD.rNeg, PD.tCallD, PD.tSlot, PD.tCD, PD.tChainD, PD.rIsN, PD.rNotN, PD.rIsiD, PD.isi_non, PD.isi_bl, PD.isi_int, PD.isi_str, PD.isi_tup, PD.isi_lst, PD.isi_dic, PD.Ty.name, PD.rCmpI, PD.fLt, PD.fLe, PD.fGt, PD.fGe, PD.rAddD, PD.rSubD, PD.rFdivD, PD.rModD, PD.rPowD, PD.rMulD, PD.rAddR, PD.rMulR, PD.asSeq, PD.asLst, PD.rLenD, PD.rTupleD, PD.rListV, PD.rListR, PD.rIntD, PD.rBoolD, PD.rAbsD, PD.rIxD, PD.oNone, PD.oSome, PD.tSlD, PD.rSlD, PD.tRevTD, PD.rEqD, PD.rNeD, PD.nrm_non, PD.nrm_bl, PD.nrm_int, PD.nrm_str, PD.nrm_tup, PD.nrm_lst, PD.nrm_dic, PD.nrm_ref, PD.iSeqD, PD.iRng1D, PD.iRng2D, PD.sForD, PD.tLcV, PD.tLcR, PD.tYesD, PD.wipeD, PD.tMethL, PD.rAppD, PD.isRefL, PD.tDicV, PD.keyOf, PD.asDic, PD.srcD, PD.iAnyD, PD.iZipD, PD.iEnumD, PD.tDcV, PD.tDicR, PD.gSubX, PD.rSetX, PD.rIxX, PD.rInD, PD.rInX, PD.rInY, PD.rSumD, PD.tRevLD, PD.tRevX, PD.rSixD, PD.rJoinD, PD.tMethS, PD.rLixD, PD.rPopD, PD.rExtD, PD.tMethA, PD.rSetD, PD.rReprD, PD.eqk_int, PD.eqd_int, PD.eqk_str, PD.eqd_str, PD.eqk_lst0, PD.eqd_lst0, PD.eqk_tup0, PD.eqd_tup0, PD.tdOf, PD.rInW, PD.rIxW, PD.rSetW, PD.gSubW, PD.rLenW, PD.rGetW, PD.rGetAt, PD.tMethW, PD.rSetdW, PD.tDispR, PD.tPairsD, PD.putAll, PD.tDisp1T, PD.gSeqD, PD.rListW, PD.tLenSetD, ↓PM.asSeq_sq, ↓PM.asDic_sq, ↓PM.srcD_sq, ↓PM.tdOf_sq, ↓PM.rIxD_sq, Option.map_some, Option.bind_some, PD.spFn, PD.spDraw, reduceIte, true_and, and_true, or_false, false_or, Bool.not_true, Bool.not_false, Bool.false_eq_true, List.length_cons, List.length_nil, List.set_cons_zero, List.set_cons_succ, PD.HD.set_same, PD.HD.tick_hp, PD.HD.tick_c, PD.HD.tick_dk, PD.HD.set_c, PD.HD.set_dk])
local macro_rules | `(tactic| simp_all only [$xs,*]) => `(tactic| simp only [PD.pad, PD.gt_z, PD.gt_s, PD.st_z, PD.st_s, PD.sNextD, PD.sSeqD, PD.sBreakD, PD.sContD, PD.sDropD, PD.sRetD, PD.sRetND, PD.sIfD, PD.sNeverD, PD.sAsgD, PD.sPar2, PD.sPar3, PD.gNameD, PD.gNilD, PD.gConsD, PD.gTupD, PD.gSubD, PD.tNilD, PD.tConsD, PD.tTupD, PD.tLstV, PD.tLstR, PD.tBin, PD.tTst, PD.tAndD, PD.tOrD, PD.tNotD, PD.tIfD, PD.tAndV, PD.tOrV, PD.tNotV, PD.tUnD, PD.rNeg, PD.tCallD, PD.tSlot, PD.tCD, PD.tChainD, PD.rIsN, PD.rNotN, PD.rIsiD, PD.isi_non, PD.isi_bl, PD.isi_int, PD.isi_str, PD.isi_tup, PD.isi_lst, PD.isi_dic, PD.Ty.name, PD.rCmpI, PD.fLt, PD.fLe, PD.fGt, PD.fGe, PD.rAddD, PD.rSubD, PD.rFdivD, PD.rModD, PD.rPowD, PD.rMulD, PD.rAddR, PD.rMulR, PD.asSeq, PD.asLst, PD.rLenD, PD.rTupleD, PD.rListV, PD.rListR, PD.rIntD, PD.rBoolD, PD.rAbsD, PD.rIxD, PD.oNone, PD.oSome, PD.tSlD, PD.rSlD, PD.tRevTD, PD.rEqD, PD.rNeD, PD.nrm_non, PD.nrm_bl, PD.nrm_int, PD.nrm_str, PD.nrm_tup, PD.nrm_lst, PD.nrm_dic, PD.nrm_ref, PD.iSeqD, PD.iRng1D, PD.iRng2D, PD.sForD, PD.tLcV, PD.tLcR, PD.tYesD, PD.wipeD, PD.tMethL, PD.rAppD, PD.isRefL, PD.tDicV, PD.keyOf, PD.asDic, PD.srcD, PD.iAnyD, PD.iZipD, PD.iEnumD, PD.tDcV, PD.tDicR, PD.gSubX, PD.rSetX, PD.rIxX, PD.rInD, PD.rInX, PD.rInY, PD.rSumD, PD.tRevLD, PD.tRevX, PD.rSixD, PD.rJoinD, PD.tMethS, PD.rLixD, PD.rPopD, PD.rExtD, PD.tMethA, PD.rSetD, PD.rReprD, PD.eqk_int, PD.eqd_int, PD.eqk_str, PD.eqd_str, PD.eqk_lst0, PD.eqd_lst0, PD.eqk_tup0, PD.eqd_tup0, PD.tdOf, PD.rInW, PD.rIxW, PD.rSetW, PD.gSubW, PD.rLenW, PD.rGetW, PD.rGetAt, PD.tMethW, PD.rSetdW, PD.tDispR, PD.tPairsD, PD.putAll, PD.tDisp1T, PD.gSeqD, PD.rListW, PD.tLenSetD, ↓PM.asSeq_sq, ↓PM.asDic_sq, ↓PM.srcD_sq, ↓PM.tdOf_sq, ↓PM.rIxD_sq, Option.map_some, Option.bind_some, PD.spFn, PD.spDraw, reduceIte, true_and, and_true, or_false, false_or, Bool.not_true, Bool.not_false, Bool.false_eq_true, List.length_cons, List.length_nil, List.set_cons_zero, List.set_cons_succ, PD.HD.set_same, PD.HD.tick_hp, PD.HD.tick_c, PD.HD.tick_dk, PD.HD.set_c, PD.HD.set_dk, $xs,*])
/-! PN8: pairs of states; smallest, size, next_of, ends_at, is_in. -/
namespace PM
open PySem PySem.Spec PyProof.Rows PD
def spSmall : SpD := fun ds S Q => ∃ M : Mch, ds = [enc M] ∧ M.Ok ∧ ∀ M' : Mch, M'.Ok → Smallest M' → M'.L = M.L → (∀ w, M'.acc w = M.acc w) → M'.rows.length ≤ M.rows.length → Q (enc M') S
theorem small_len (ds : List D) (S : HD) (Q : QD) (h : spSmall ds S Q) : ds.length = 1 := by
  obtain ⟨_, rfl, _⟩ := h
  rfl
theorem small_ok (ds : List D) (S : HD) (Q : QD) (h : spSmall ds S Q) : rd_smallest spShrunk (ends Q) (pad 1 ds) S := by
  obtain ⟨M, rfl, ok, q⟩ := h
  unfold rd_smallest enc
  simp_all only [at3_0, at3_1, at3_2]
  exact ⟨M, true, rfl, ok, fun M' h1 h2 h3 h4 h5 => fin.here (q M' h1 h2 h3 h4 h5)⟩
/-- the size of no words -/
def spSize0 : SpD := fun ds S Q => ∃ M : Mch, ds = [enc M] ∧ M.Ok ∧ (∀ w, M.acc w = false) ∧ Q (.int 0) S
theorem size_len (ds : List D) (S : HD) (Q : QD) (h : spSize0 ds S Q) : ds.length = 1 := by
  obtain ⟨_, rfl, _⟩ := h
  rfl
theorem cnt_0 {M : Mch} (h : ∀ w, M.acc w = false) (k : Nat) : M.cnt k 0 = 0 := by
  unfold Mch.cnt
  rw [← due_eq]
  have : (wordsL M.L k).filter M.acc = [] := by
    rw [List.filter_eq_nil_iff]
    intro w _
    rw [h]
    exact Bool.false_ne_true
  rw [this]
  rfl
theorem size_ok (ds : List D) (S : HD) (Q : QD) (h : spSize0 ds S Q) : rd_size spShrunk spCounts (ends Q) (pad 3 ds) S := by
  obtain ⟨M, rfl, ok, h0, q⟩ := h
  have hsl : (sizeLine : Nat) = 16777216 := rfl
  unfold rd_size
  refine seq_step fun N1 hN1 => ?_
  unfold enc
  simp_all only [at3_0, at3_1, at3_2]
  refine ⟨M, true, rfl, ok, fun M' o' h2 h3 h4 h5 => hN1 _ _ ?_⟩
  clear hN1 N1
  have n4 := o'.n4
  refine seq_step fun N1 hN1 => ?_
  unfold enc
  simp_all only [at3_0, at3_1, at3_2, List.length_map]
  refine ⟨.inl ⟨by omega, by omega⟩, M', 2 * M'.rows.length, ?_, o', by omega, hN1 _ _ ?_⟩
  · show [enc M', D.int (2 * ((M'.rows.length : Nat) : Int))] = [enc M', .int (((2 * M'.rows.length : Nat)) : Int)]
    rw [show ((2 * M'.rows.length : Nat) : Int) = 2 * ((M'.rows.length : Nat) : Int) by omega]
  clear hN1 N1
  have ez : (List.range (2 * M'.rows.length + 1)).map (fun k => cntD M' k 0) = (List.replicate (2 * M'.rows.length + 1) (0 : Int)).map .int := by
    apply List.ext_getElem (by simp)
    intro i h1 h2
    simp only [List.getElem_map, List.getElem_range, List.getElem_replicate]
    unfold cntD
    rw [cnt_0 (fun w => by rw [h4, h0])]
    rfl
  rw [ez]
  generalize hzs : List.replicate (2 * M'.rows.length + 1) (0 : Int) = zs
  have sum0 : ∀ l : List Int, (∀ x ∈ l, x = 0) → l.sum = 0 := by
    intro l
    induction l with
    | nil => intro _; rfl
    | cons x l ih => intro h; rw [List.sum_cons, h x List.mem_cons_self, ih fun y hy => h y (List.mem_cons_of_mem _ hy)]; rfl
  have zs0 : ∀ x ∈ zs, x = 0 := by rw [← hzs]; exact fun x hx => List.eq_of_mem_replicate hx
  have ecut : cutD (zs.map D.int) (some ((M'.rows.length : Nat) : Int)) none = (zs.drop M'.rows.length).map .int := by rw [cut_suf, List.map_drop]
  have e1 := sum0 zs zs0
  have e2 := sum0 (zs.drop M'.rows.length) fun x hx => zs0 x (List.mem_of_mem_drop hx)
  simp_all only [at3_0, at3_1, at3_2, List.length_map, ecut, intsOf_map, e2, e1]
  exact fin.here q
def Mch.finO (M : Mch) : Option Nat → Bool
  | some t => M.fin t
  | none => false
def Mch.inO (M : Mch) (s : Option Nat) : Prop := ∀ t, s = some t → t < M.rows.length
def spNextOf : SpD := fun ds S Q => ∃ (M : Mch) (s : Option Nat) (c : Nat), ds = [enc M, encC s, natD c] ∧ M.Ok ∧ c < M.L ∧ M.inO s ∧ Q (encC (M.nxo s c)) S
theorem nextOf_len (ds : List D) (S : HD) (Q : QD) (h : spNextOf ds S Q) : ds.length = 3 := by
  obtain ⟨_, _, _, rfl, _⟩ := h
  rfl
theorem nextOf_ok (ds : List D) (S : HD) (Q : QD) (h : spNextOf ds S Q) : rd_next_of (ends Q) (pad 3 ds) S := by
  obtain ⟨M, s, c, rfl, ok, hc, hs, q⟩ := h
  have q := fin.here q
  unfold rd_next_of
  cases s with
  | none => unfold encC at *; walk_at "rdx"; exact q
  | some s =>
    obtain ⟨r, h1, h2, h3⟩ := cell_at ok (hs s rfl) hc
    unfold enc
    simp_all only [encC, isN, at3_1, h2, h3]
    exact q
def spEndsAt : SpD := fun ds S Q => ∃ (M : Mch) (s : Option Nat), ds = [enc M, encC s] ∧ M.Ok ∧ M.inO s ∧ Q (.bl (M.finO s)) S
theorem endsAt_len (ds : List D) (S : HD) (Q : QD) (h : spEndsAt ds S Q) : ds.length = 2 := by
  obtain ⟨_, _, rfl, _⟩ := h
  rfl
theorem endsAt_ok (ds : List D) (S : HD) (Q : QD) (h : spEndsAt ds S Q) : rd_ends_at (ends Q) (pad 2 ds) S := by
  obtain ⟨M, s, rfl, ok, hs, q⟩ := h
  have q := fin.here q
  unfold rd_ends_at
  cases s with
  | none => unfold encC at *; walk_at "rdx"; exact q
  | some s =>
    have hen := end_at ok (hs s rfl)
    unfold enc
    simp_all only [encC, isN, at3_2, hen]
    exact q
/-- how two machines' words are put together -/
inductive How | both | either | less
def How.str : How → Str
  | .both => "both"
  | .either => "either"
  | .less => "less"
def How.op : How → Bool → Bool → Bool
  | .both, a, b => a && b
  | .either, a, b => a || b
  | .less, a, b => a && !b
def spIsIn : SpD := fun ds S Q => ∃ (h : How) (a b : Bool), ds = [.str h.str, .bl a, .bl b] ∧ Q (.bl (h.op a b)) S
theorem isIn_len (ds : List D) (S : HD) (Q : QD) (h : spIsIn ds S Q) : ds.length = 3 := by
  obtain ⟨_, _, _, rfl, _⟩ := h
  rfl
theorem str_be : decide (("either" : Str) = "both") = false := by decide +kernel
theorem str_lb : decide (("less" : Str) = "both") = false := by decide +kernel
theorem str_le : decide (("less" : Str) = "either") = false := by decide +kernel
theorem str_bb : decide (("both" : Str) = "both") = true := by decide +kernel
theorem str_ee : decide (("either" : Str) = "either") = true := by decide +kernel
theorem isIn_ok (ds : List D) (S : HD) (Q : QD) (h : spIsIn ds S Q) : rd_is_in (ends Q) (pad 3 ds) S := by
  obtain ⟨h, a, b, rfl, q⟩ := h
  have q := fin.here q
  unfold rd_is_in
  cases h <;> unfold How.str <;> unfold How.op at q <;> simp_all only [str_be, str_lb, str_le, str_bb, str_ee] <;> cases a <;> exact q
end PM
end

section
local macro_rules | `(tactic| walk_at "rdx") => `(tactic| simp only [PD.pad, PD.gt_z, PD.gt_s, PD.st_z, PD.st_s, PD.sNextD, PD.sSeqD, PD.sBreakD, PD.sContD, PD.sDropD, PD.sRetD, PD.sRetND, PD.sIfD, PD.sNeverD, PD.sAsgD, PD.sPar2, PD.sPar3, PD.gNameD, PD.gNilD, PD.gConsD, PD.gTupD, PD.gSubD, PD.tNilD, PD.tConsD, PD.tTupD, PD.tLstV, PD.tLstR, PD.tBin, PD.tTst, PD.tAndD, PD.tOrD, PD.tNotD, PD.tIfD, PD.tAndV, PD.tOrV, PD.tNotV, PD.tUnD, PD.rNeg, PD.tCallD, PD.tSlot, PD.tCD, PD.tChainD, PD.rIsN, PD.rNotN, PD.rIsiD, PD.isi_non, PD.isi_bl, PD.isi_int, PD.isi_str, PD.isi_tup, PD.isi_lst, PD.isi_dic, PD.Ty.name, PD.rCmpI, PD.fLt, PD.fLe, PD.fGt, PD.fGe, PD.rAddD, PD.rSubD, PD.rFdivD, PD.rModD, PD.rPowD, PD.rMulD, PD.rAddR, PD.rMulR, PD.asSeq, PD.asLst, PD.rLenD, PD.rTupleD, PD.rListV, PD.rListR, PD.rIntD, PD.rBoolD, PD.rAbsD, PD.rIxD, PD.oNone, PD.oSome, PD.tSlD, PD.rSlD, PD.tRevTD, PD.rEqD, PD.rNeD, PD.nrm_non, PD.nrm_bl, PD.nrm_int, PD.nrm_str, PD.nrm_tup, PD.nrm_lst, PD.nrm_dic, PD.nrm_ref, PD.iSeqD, PD.iRng1D, PD.iRng2D, PD.sForD, PD.tLcV, PD.tLcR, PD.tYesD, PD.wipeD, PD.tMethL, PD.rAppD, PD.isRefL, PD.tDicV, PD.keyOf, PD.asDic, PD.srcD, PD.iAnyD, PD.iZipD, PD.iEnumD, PD.tDcV, PD.tDicR, PD.gSubX, PD.rSetX, PD.rIxX, PD.rInD, PD.rInX, PD.rInY, PD.rSumD, PD.tRevLD, PD.tRevX, PD.rSixD, PD.rJoinD, PD.tMethS, PD.rLixD, PD.rPopD, PD.rExtD, PD.tMethA, PD.rSetD, PD.rReprD, PD.eqk_int, PD.eqd_int, PD.eqk_str, PD.eqd_str, PD.eqk_lst0, PD.eqd_lst0, PD.eqk_tup0, PD.eqd_tup0, PD.tdOf, PD.rInW, PD.rIxW, PD.rSetW, PD.gSubW, PD.rLenW, PD.rGetW, PD.rGetAt, PD.tMethW, PD.rSetdW, PD.tDispR, PD.tPairsD, PD.putAll, PD.tDisp1T, PD.gSeqD, PD.rListW, PD.tLenSetD, ↓PM.asSeq_sq, ↓PM.asDic_sq, ↓PM.srcD_sq, ↓PM.tdOf_sq, ↓PM.rIxD_sq, Option.map_some, Option.bind_some, PD.spFn, PD.spDraw, reduceIte, true_and, and_true, or_false, false_or, Bool.not_true, Bool.not_false, Bool.false_eq_true, List.length_cons, List.length_nil, List.set_cons_zero, List.set_cons_succ, PD.HD.set_same, PD.HD.tick_hp, PD.HD.tick_c, PD.HD.tick_dk, PD.HD.set_c, PD.HD.set_dk])
local macro_rules | `(tactic| simp_all only [$xs,*]) => `(tactic| simp only [PD.pad, PD.gt_z, PD.gt_s, PD.st_z, PD.st_s, PD.sNextD, PD.sSeqD, PD.sBreakD, PD.sContD, PD.sDropD, PD.sRetD, PD.sRetND, PD.sIfD, PD.sNeverD, PD.sAsgD, PD.sPar2, PD.sPar3, PD.gNameD, PD.gNilD, PD.gConsD, PD.gTupD, PD.gSubD, PD.tNilD, PD.tConsD, PD.tTupD, PD.tLstV, PD.tLstR, PD.tBin, PD.tTst, PD.tAndD, PD.tOrD, PD.tNotD, PD.tIfD, PD.tAndV, PD.tOrV, PD.tNotV, PD.tUnD, PD.rNeg, PD.tCallD, PD.tSlot, PD.tCD, PD.tChainD, PD.rIsN, PD.rNotN, PD.rIsiD, PD.isi_non, PD.isi_bl, PD.isi_int, PD.isi_str, PD.isi_tup, PD.isi_lst, PD.isi_dic, PD.Ty.name, PD.rCmpI, PD.fLt, PD.fLe, PD.fGt, PD.fGe, PD.rAddD, PD.rSubD, PD.rFdivD, PD.rModD, PD.rPowD, PD.rMulD, PD.rAddR, PD.rMulR, PD.asSeq, PD.asLst, PD.rLenD, PD.rTupleD, PD.rListV, PD.rListR, PD.rIntD, PD.rBoolD, PD.rAbsD, PD.rIxD, PD.oNone, PD.oSome, PD.tSlD, PD.rSlD, PD.tRevTD, PD.rEqD, PD.rNeD, PD.nrm_non, PD.nrm_bl, PD.nrm_int, PD.nrm_str, PD.nrm_tup, PD.nrm_lst, PD.nrm_dic, PD.nrm_ref, PD.iSeqD, PD.iRng1D, PD.iRng2D, PD.sForD, PD.tLcV, PD.tLcR, PD.tYesD, PD.wipeD, PD.tMethL, PD.rAppD, PD.isRefL, PD.tDicV, PD.keyOf, PD.asDic, PD.srcD, PD.iAnyD, PD.iZipD, PD.iEnumD, PD.tDcV, PD.tDicR, PD.gSubX, PD.rSetX, PD.rIxX, PD.rInD, PD.rInX, PD.rInY, PD.rSumD, PD.tRevLD, PD.tRevX, PD.rSixD, PD.rJoinD, PD.tMethS, PD.rLixD, PD.rPopD, PD.rExtD, PD.tMethA, PD.rSetD, PD.rReprD, PD.eqk_int, PD.eqd_int, PD.eqk_str, PD.eqd_str, PD.eqk_lst0, PD.eqd_lst0, PD.eqk_tup0, PD.eqd_tup0, PD.tdOf, PD.rInW, PD.rIxW, PD.rSetW, PD.gSubW, PD.rLenW, PD.rGetW, PD.rGetAt, PD.tMethW, PD.rSetdW, PD.tDispR, PD.tPairsD, PD.putAll, PD.tDisp1T, PD.gSeqD, PD.rListW, PD.tLenSetD, ↓PM.asSeq_sq, ↓PM.asDic_sq, ↓PM.srcD_sq, ↓PM.tdOf_sq, ↓PM.rIxD_sq, Option.map_some, Option.bind_some, PD.spFn, PD.spDraw, reduceIte, true_and, and_true, or_false, false_or, Bool.not_true, Bool.not_false, Bool.false_eq_true, List.length_cons, List.length_nil, List.set_cons_zero, List.set_cons_succ, PD.HD.set_same, PD.HD.tick_hp, PD.HD.tick_c, PD.HD.tick_dk, PD.HD.set_c, PD.HD.set_dk, $xs,*])
/-! PN9: joint. -/
namespace PM
open PySem PySem.Spec PyProof.Rows PD
abbrev Pr := Option Nat × Option Nat
def prD (p : Pr) : D := .tup [encC p.1, encC p.2]
def enK : Option Nat → NestedKey
  | none => .none
  | some t => .num (t : Nat)
def prK (p : Pr) : NestedKey := .tup [enK p.1, enK p.2]
theorem encC_nk (s : Option Nat) : nkOf (encC s) = some (enK s) := by cases s <;> rfl
theorem prD_key (p : Pr) : keyT (prD p) = some (prK p) := by
  show (((nkOf (encC p.1)).bind fun k => (((nkOf (encC p.2)).bind fun k => (some []).map (k :: ·))).map (k :: ·))).map NestedKey.tup = _
  rw [encC_nk, encC_nk]
  rfl
theorem enK_dep (s : Option Nat) : (enK s).depth = 0 := by cases s <;> rfl
theorem prK_dep (p : Pr) : (prK p).depth ≤ 8 := by
  show max (enK p.1).depth (max (enK p.2).depth 0) + 1 ≤ 8
  rw [enK_dep, enK_dep]
  decide
theorem enK_inj {a b : Option Nat} (h : enK a = enK b) : a = b := by
  cases a <;> cases b <;> first | rfl | (cases h; rfl) | cases h
theorem prK_inj {p q : Pr} (h : prK p = prK q) : p = q := by
  unfold prK at h
  injection h with h
  injection h with h1 h
  injection h with h2 _
  exact Prod.ext (enK_inj h1) (enK_inj h2)
/-- the places of pairs, in the order they are met -/
def plP (n : Nat) : List Pr → List (D × D)
  | [] => []
  | r :: rs => (prD r, natD n) :: plP (n + 1) rs
theorem plP_len : ∀ (rs : List Pr) (n : Nat), (plP n rs).length = rs.length
  | [], _ => rfl
  | r :: rs, n => by simp [plP, plP_len rs (n + 1)]
theorem plP_snoc (s : Pr) : ∀ (rs : List Pr) (n : Nat), plP n (rs ++ [s]) = plP n rs ++ [(prD s, natD (n + rs.length))]
  | [], n => rfl
  | r :: rs, n => by
    show (prD r, natD n) :: plP (n + 1) (rs ++ [s]) = _
    rw [plP_snoc s rs (n + 1)]
    simp only [List.length_cons]
    rw [show n + 1 + rs.length = n + (rs.length + 1) by omega]
    rfl
theorem getT_P (p : Pr) : ∀ (rs : List Pr) (n : Nat), (getT (plP n rs) (prK p) = none ∧ p ∉ rs) ∨ ∃ i, getT (plP n rs) (prK p) = some (natD (n + i)) ∧ rs[i]? = some p
  | [], _ => .inl ⟨rfl, fun h => nomatch h⟩
  | r :: rs, n => by
    have hk := keyT_nk (prD_key r)
    by_cases e : r = p
    · subst e
      exact .inr ⟨0, by simp [plP, getT, hk], rfl⟩
    · have e1 : getT (plP n (r :: rs)) (prK p) = getT (plP (n + 1) rs) (prK p) := by
        simp only [plP, getT, hk]
        exact if_neg fun q => e (prK_inj (Option.some.inj q))
      rcases getT_P p rs (n + 1) with ⟨h1, h2⟩ | ⟨i, h1, h2⟩
      · exact .inl ⟨by rw [e1, h1], fun h => (List.mem_cons.mp h).elim (fun z => e z.symm) h2⟩
      · exact .inr ⟨i + 1, by rw [e1, h1, show n + 1 + i = n + (i + 1) by omega], by simpa using h2⟩
/-- all pairs -/
def opts (n : Nat) : List (Option Nat) := none :: (List.range n).map some
def univ (n m : Nat) : List Pr := (opts n).flatMap fun a => (opts m).map fun b => (a, b)
theorem opts_mem {n : Nat} {s : Option Nat} (h : ∀ t, s = some t → t < n) : s ∈ opts n := by
  unfold opts
  cases s with
  | none => exact List.mem_cons_self
  | some t => exact List.mem_cons_of_mem _ (List.mem_map.mpr ⟨t, List.mem_range.mpr (h t rfl), rfl⟩)
theorem opts_len (n : Nat) : (opts n).length = n + 1 := by simp [opts]
theorem univ_mem {n m : Nat} {p : Pr} (h1 : ∀ t, p.1 = some t → t < n) (h2 : ∀ t, p.2 = some t → t < m) : p ∈ univ n m :=
  List.mem_flatMap.mpr ⟨p.1, opts_mem h1, List.mem_map.mpr ⟨p.2, opts_mem h2, rfl⟩⟩
theorem univ_len (n m : Nat) : (univ n m).length = (n + 1) * (m + 1) := by
  unfold univ
  rw [List.length_flatMap]
  have : ((opts n).map fun a => ((opts m).map fun b => (a, b)).length) = List.replicate (n + 1) (m + 1) := by
    rw [← opts_len n, ← List.map_const']
    apply List.map_congr_left
    intro a _
    rw [List.length_map, opts_len]
  have rep : ∀ k x : Nat, (List.replicate k x).sum = k * x := by
    intro k x
    induction k with
    | zero => simp
    | succ k ih => rw [List.replicate_succ, List.sum_cons, ih, Nat.add_mul]; omega
  rw [this, rep]
instance : LawfulBEq Pr := inferInstance
section
variable {M1 M2 : Mch}
def inP (M1 M2 : Mch) (p : Pr) : Prop := M1.inO p.1 ∧ M2.inO p.2 ∧ p ≠ (none, none)
def stepP (M1 M2 : Mch) (p : Pr) (c : Nat) : Pr := (M1.nxo p.1 c, M2.nxo p.2 c)
theorem inO_nx {M : Mch} (ok : M.Ok) {s : Option Nat} {c : Nat} : M.inO (M.nxo s c) := fun t h => by
  cases s with
  | none => cases h
  | some s => exact M.nx_lt ok h
theorem pairs_le {ps : List Pr} (hn : ps.Nodup) (h : ∀ p ∈ ps, inP M1 M2 p) : ps.length + 1 ≤ (M1.rows.length + 1) * (M2.rows.length + 1) := by
  rw [← univ_len]
  have := sub_len (l := (none, none) :: ps) (m := univ M1.rows.length M2.rows.length) (List.nodup_cons.mpr ⟨fun hm => (h _ hm).2.2 rfl, hn⟩) fun p hp => by
    rcases List.mem_cons.mp hp with e | hp
    · subst e; exact univ_mem (fun t h => by cases h) fun t h => by cases h
    · exact univ_mem (h p hp).1 (h p hp).2.1
  exact this
def accO (M : Mch) (s : Option Nat) (w : List Nat) : Bool := match s with
  | some t => M.accF t w
  | none => false
theorem accO_cons (M : Mch) (s : Option Nat) (c : Nat) (w : List Nat) : accO M s (c :: w) = accO M (M.nxo s c) w := by
  cases s with
  | none => rfl
  | some t => exact accF_cons M t c w
theorem accO_nil (M : Mch) (s : Option Nat) : accO M s [] = M.finO s := by cases s <;> rfl
/-- the pair that a word leads to -/
def pairOf (M1 M2 : Mch) (w : List Nat) : Pr := (M1.run (some 0) w, M2.run (some 0) w)
theorem pairOf_snoc (M1 M2 : Mch) (w : List Nat) (c : Nat) : pairOf M1 M2 (w ++ [c]) = stepP M1 M2 (pairOf M1 M2 w) c := by
  unfold pairOf stepP
  rw [run_app, run_app]
  rfl
def reP (M1 M2 : Mch) (p : Pr) : Prop := ∃ w, WordOk M1 w ∧ pairOf M1 M2 w = p
/-- few pairs are met -/
def Few (M1 M2 : Mch) : Prop := ∃ U : List Pr, U.length ≤ 400 ∧ ∀ w, WordOk M1 w → pairOf M1 M2 w ≠ (none, none) → pairOf M1 M2 w ∈ U
/-- the rows made so far -/
structure JoI (M1 M2 : Mch) (h : How) (ps : List Pr) (fr : List (List (Option Nat))) (es : List Bool) : Prop where
  nd : ps.Nodup
  z : ps[0]? = some (some 0, some 0)
  ok : ∀ p ∈ ps, inP M1 M2 p
  re : ∀ p ∈ ps, reP M1 M2 p
  rel : ∀ (i : Nat) (r : List (Option Nat)) (p : Pr), fr[i]? = some r → ps[i]? = some p → ∀ c, c < r.length → (stepP M1 M2 p c = (none, none) ∧ (r[c]?).bind id = none) ∨ ∃ j, (r[c]?).bind id = some j ∧ ps[j]? = some (stepP M1 M2 p c)
  en : ∀ (i : Nat) (b : Bool) (p : Pr), es[i]? = some b → ps[i]? = some p → b = h.op (M1.finO p.1) (M2.finO p.2)
  len : fr.length ≤ ps.length
theorem JoI.cell {h : How} {ps : List Pr} {fr : List (List (Option Nat))} {cur : List (Option Nat)} {es : List Bool} (J : JoI M1 M2 h ps (fr ++ [cur]) es) {p : Pr} (hp : ps[fr.length]? = some p) {x : Option Nat} (hx : (stepP M1 M2 p cur.length = (none, none) ∧ x = none) ∨ ∃ j, x = some j ∧ ps[j]? = some (stepP M1 M2 p cur.length)) : JoI M1 M2 h ps (fr ++ [cur ++ [x]]) es where
  nd := J.nd
  z := J.z
  ok := J.ok
  re := J.re
  rel := fun i r p' hr hp' c hc => by
    by_cases hi : i < fr.length
    · rw [List.getElem?_append_left hi] at hr
      exact J.rel i r p' (by rw [List.getElem?_append_left hi]; exact hr) hp' c hc
    · have hl := (List.getElem?_eq_some_iff.mp hr).1
      simp only [List.length_append, List.length_singleton] at hl
      have he : i = fr.length := by omega
      subst he
      simp only [List.getElem?_append_right (Nat.le_refl _), Nat.sub_self, List.getElem?_cons_zero, Option.some.injEq] at hr
      subst hr
      rw [hp] at hp'
      cases hp'
      by_cases hcl : c < cur.length
      · rw [List.getElem?_append_left hcl]
        exact J.rel fr.length cur p (by simp) hp c hcl
      · have : c = cur.length := by simp at hc; omega
        subst this
        simpa using hx
  en := J.en
  len := by have := J.len; simpa using this
theorem JoI.grow {h : How} {ps : List Pr} {fr : List (List (Option Nat))} {es : List Bool} (J : JoI M1 M2 h ps fr es) (hel : es.length ≤ ps.length) {q : Pr} (hq : inP M1 M2 q) (hr : reP M1 M2 q) (hn : q ∉ ps) : JoI M1 M2 h (ps ++ [q]) fr es where
  nd := nodup_snoc J.nd hn
  z := by rw [List.getElem?_append_left (List.getElem?_eq_some_iff.mp J.z).1]; exact J.z
  ok := fun p hp => (List.mem_append.mp hp).elim (J.ok p) fun e => by rw [List.mem_singleton.mp e]; exact hq
  re := fun p hp => (List.mem_append.mp hp).elim (J.re p) fun e => by rw [List.mem_singleton.mp e]; exact hr
  rel := fun i r p hr hp c hc => by
    have hi := (List.getElem?_eq_some_iff.mp hr).1
    have := J.len
    rw [List.getElem?_append_left (by omega)] at hp
    rcases J.rel i r p hr hp c hc with h1 | ⟨j, h1, h2⟩
    · exact .inl h1
    · exact .inr ⟨j, h1, by rw [List.getElem?_append_left (List.getElem?_eq_some_iff.mp h2).1]; exact h2⟩
  en := fun i b p hb hp => by
    have hi := (List.getElem?_eq_some_iff.mp hb).1
    rw [List.getElem?_append_left (by omega)] at hp
    exact J.en i b p hb hp
  len := by have := J.len; simp; omega
theorem JoI.row {h : How} {ps : List Pr} {fr : List (List (Option Nat))} {es : List Bool} (J : JoI M1 M2 h ps fr es) (hl : fr.length < ps.length) : JoI M1 M2 h ps (fr ++ [[]]) es where
  nd := J.nd
  z := J.z
  ok := J.ok
  re := J.re
  rel := fun i r p hr hp c hc => by
    by_cases hi : i < fr.length
    · rw [List.getElem?_append_left hi] at hr
      exact J.rel i r p hr hp c hc
    · have hl := (List.getElem?_eq_some_iff.mp hr).1
      simp only [List.length_append, List.length_singleton] at hl
      have he : i = fr.length := by omega
      subst he
      simp at hr
      subst hr
      cases hc
  en := J.en
  len := by simp; omega
theorem JoI.end' {h : How} {ps : List Pr} {fr : List (List (Option Nat))} {es : List Bool} (J : JoI M1 M2 h ps fr es) {p : Pr} (hp : ps[es.length]? = some p) : JoI M1 M2 h ps fr (es ++ [h.op (M1.finO p.1) (M2.finO p.2)]) where
  nd := J.nd
  z := J.z
  ok := J.ok
  re := J.re
  rel := J.rel
  en := fun i b p' hb hp' => by
    by_cases hi : i < es.length
    · rw [List.getElem?_append_left hi] at hb
      exact J.en i b p' hb hp'
    · have hl := (List.getElem?_eq_some_iff.mp hb).1
      simp at hl
      have he : i = es.length := by omega
      subst he
      rw [hp] at hp'
      cases hp'
      simp at hb
      exact hb.symm
  len := J.len
theorem JoI.few {h : How} {ps : List Pr} {fr : List (List (Option Nat))} {es : List Bool} (J : JoI M1 M2 h ps fr es) (F : Few M1 M2) : ps.length ≤ 400 := by
  obtain ⟨U, h1, h2⟩ := F
  refine Nat.le_trans (sub_len J.nd fun p hp => ?_) h1
  obtain ⟨w, hw, rfl⟩ := J.re p hp
  exact h2 w hw (J.ok _ hp).2.2
theorem op_ff (h : How) : h.op false false = false := by cases h <;> rfl
theorem JoI.all (o1 : M1.Ok) (o2 : M2.Ok) (hL : M1.L = M2.L) (hb : Few M1 M2) {h : How} {ps : List Pr} {fr : List (List (Option Nat))} {es : List Bool} (J : JoI M1 M2 h ps fr es) (hl : fr.length = ps.length) (he : es.length = ps.length) (hw : ∀ r ∈ fr, r.length = M1.L) :
    let J0 : Mch := ⟨M1.L, fr, es⟩
    J0.Ok ∧ ∀ w, J0.acc w = h.op (M1.acc w) (M2.acc w) := by
  intro J0
  have hz := (List.getElem?_eq_some_iff.mp J.z).1
  have hc := J.few hb
  have nxe : ∀ i c, J0.nx i c = ((fr[i]?).bind (·[c]?)).bind id := fun i c => rfl
  refine ⟨⟨o1.l1, o1.l3, by show 1 ≤ fr.length; omega, by show fr.length ≤ 400; omega, by show es.length = fr.length; omega, hw, fun r hr c hc t ht => ?_⟩, fun w => ?_⟩
  · subst ht
    obtain ⟨i, hi⟩ := List.mem_iff_getElem?.mp hr
    obtain ⟨k, hk⟩ := List.mem_iff_getElem?.mp hc
    have hi' : fr[i]? = some r := hi
    have hil := (List.getElem?_eq_some_iff.mp hi').1
    have hp : ps[i]? = some ps[i] := by simp [← hl, hil]
    show t < fr.length
    rcases J.rel i r _ hi' hp k (List.getElem?_eq_some_iff.mp hk).1 with ⟨_, h1⟩ | ⟨j, h1, h2⟩
    · rw [hk] at h1; cases h1
    · rw [hk] at h1
      cases h1
      rw [hl]
      exact (List.getElem?_eq_some_iff.mp h2).1
  · have sim : ∀ (w : List Nat) (j : Nat) (p : Pr), ps[j]? = some p → J0.accF j w = h.op (accO M1 p.1 w) (accO M2 p.2 w) := by
      intro w
      induction w with
      | nil =>
        intro j p hp
        rw [accF_nil, accO_nil, accO_nil]
        have hj : j < es.length := by rw [he]; exact (List.getElem?_eq_some_iff.mp hp).1
        have e1 : es[j]? = some es[j] := by simp [hj]
        show (es[j]?).getD false = _
        rw [e1]
        exact J.en j _ p e1 hp
      | cons c w ih =>
        intro j p hp
        rw [accF_cons, accO_cons, accO_cons, nxe]
        have hjl : j < fr.length := by rw [hl]; exact (List.getElem?_eq_some_iff.mp hp).1
        have hr : fr[j]? = some fr[j] := by simp [hjl]
        have hrl := hw _ (List.getElem_mem hjl)
        rw [hr, Option.bind_some]
        by_cases hcl : c < M1.L
        · rcases J.rel j _ p hr hp c (by rw [hrl]; exact hcl) with ⟨h1, h2⟩ | ⟨j2, h1, h2⟩
          · rw [h2]
            have e1 : M1.nxo p.1 c = none := congrArg Prod.fst h1
            have e2 : M2.nxo p.2 c = none := congrArg Prod.snd h1
            rw [e1, e2]
            exact (op_ff h).symm
          · rw [h1]
            exact ih j2 _ h2
        · rw [List.getElem?_eq_none (by omega)]
          have e1 : M1.nxo p.1 c = none := by
            cases hp1 : p.1 with
            | none => rfl
            | some s => exact nx_ge o1 (by omega)
          have e2 : M2.nxo p.2 c = none := by
            cases hp1 : p.2 with
            | none => rfl
            | some s => exact nx_ge o2 (by omega)
          rw [e1, e2]
          exact (op_ff h).symm
    exact sim w 0 _ J.z
end
end PM
end

section
local macro_rules | `(tactic| walk_at "rdx") => `(tactic| simp only [PD.pad, PD.gt_z, PD.gt_s, PD.st_z, PD.st_s, PD.sNextD, PD.sSeqD, PD.sBreakD, PD.sContD, PD.sDropD, PD.sRetD, PD.sRetND, PD.sIfD, PD.sNeverD, PD.sAsgD, PD.sPar2, PD.sPar3, PD.gNameD, PD.gNilD, PD.gConsD, PD.gTupD, PD.gSubD, PD.tNilD, PD.tConsD, PD.tTupD, PD.tLstV, PD.tLstR, PD.tBin, PD.tTst, PD.tAndD, PD.tOrD, PD.tNotD, PD.tIfD, PD.tAndV, PD.tOrV, PD.tNotV, PD.tUnD, PD.rNeg, PD.tCallD, PD.tSlot, PD.tCD, PD.tChainD, PD.rIsN, PD.rNotN, PD.rIsiD, PD.isi_non, PD.isi_bl, PD.isi_int, PD.isi_str, PD.isi_tup, PD.isi_lst, PD.isi_dic, PD.Ty.name, PD.rCmpI, PD.fLt, PD.fLe, PD.fGt, PD.fGe, PD.rAddD, PD.rSubD, PD.rFdivD, PD.rModD, PD.rPowD, PD.rMulD, PD.rAddR, PD.rMulR, PD.asSeq, PD.asLst, PD.rLenD, PD.rTupleD, PD.rListV, PD.rListR, PD.rIntD, PD.rBoolD, PD.rAbsD, PD.rIxD, PD.oNone, PD.oSome, PD.tSlD, PD.rSlD, PD.tRevTD, PD.rEqD, PD.rNeD, PD.nrm_non, PD.nrm_bl, PD.nrm_int, PD.nrm_str, PD.nrm_tup, PD.nrm_lst, PD.nrm_dic, PD.nrm_ref, PD.iSeqD, PD.iRng1D, PD.iRng2D, PD.sForD, PD.tLcV, PD.tLcR, PD.tYesD, PD.wipeD, PD.tMethL, PD.rAppD, PD.isRefL, PD.tDicV, PD.keyOf, PD.asDic, PD.srcD, PD.iAnyD, PD.iZipD, PD.iEnumD, PD.tDcV, PD.tDicR, PD.gSubX, PD.rSetX, PD.rIxX, PD.rInD, PD.rInX, PD.rInY, PD.rSumD, PD.tRevLD, PD.tRevX, PD.rSixD, PD.rJoinD, PD.tMethS, PD.rLixD, PD.rPopD, PD.rExtD, PD.tMethA, PD.rSetD, PD.rReprD, PD.eqk_int, PD.eqd_int, PD.eqk_str, PD.eqd_str, PD.eqk_lst0, PD.eqd_lst0, PD.eqk_tup0, PD.eqd_tup0, PD.tdOf, PD.rInW, PD.rIxW, PD.rSetW, PD.gSubW, PD.rLenW, PD.rGetW, PD.rGetAt, PD.tMethW, PD.rSetdW, PD.tDispR, PD.tPairsD, PD.putAll, PD.tDisp1T, PD.gSeqD, PD.rListW, PD.tLenSetD, ↓PM.asSeq_sq, ↓PM.asDic_sq, ↓PM.srcD_sq, ↓PM.tdOf_sq, ↓PM.rIxD_sq, Option.map_some, Option.bind_some, PD.spFn, PD.spDraw, reduceIte, true_and, and_true, or_false, false_or, Bool.not_true, Bool.not_false, Bool.false_eq_true, List.length_cons, List.length_nil, List.set_cons_zero, List.set_cons_succ, PD.HD.set_same, PD.HD.tick_hp, PD.HD.tick_c, PD.HD.tick_dk, PD.HD.set_c, PD.HD.set_dk])
local macro_rules | `(tactic| simp_all only [$xs,*]) => `(tactic| simp only [PD.pad, PD.gt_z, PD.gt_s, PD.st_z, PD.st_s, PD.sNextD, PD.sSeqD, PD.sBreakD, PD.sContD, PD.sDropD, PD.sRetD, PD.sRetND, PD.sIfD, PD.sNeverD, PD.sAsgD, PD.sPar2, PD.sPar3, PD.gNameD, PD.gNilD, PD.gConsD, PD.gTupD, PD.gSubD, PD.tNilD, PD.tConsD, PD.tTupD, PD.tLstV, PD.tLstR, PD.tBin, PD.tTst, PD.tAndD, PD.tOrD, PD.tNotD, PD.tIfD, PD.tAndV, PD.tOrV, PD.tNotV, PD.tUnD, PD.rNeg, PD.tCallD, PD.tSlot, PD.tCD, PD.tChainD, PD.rIsN, PD.rNotN, PD.rIsiD, PD.isi_non, PD.isi_bl, PD.isi_int, PD.isi_str, PD.isi_tup, PD.isi_lst, PD.isi_dic, PD.Ty.name, PD.rCmpI, PD.fLt, PD.fLe, PD.fGt, PD.fGe, PD.rAddD, PD.rSubD, PD.rFdivD, PD.rModD, PD.rPowD, PD.rMulD, PD.rAddR, PD.rMulR, PD.asSeq, PD.asLst, PD.rLenD, PD.rTupleD, PD.rListV, PD.rListR, PD.rIntD, PD.rBoolD, PD.rAbsD, PD.rIxD, PD.oNone, PD.oSome, PD.tSlD, PD.rSlD, PD.tRevTD, PD.rEqD, PD.rNeD, PD.nrm_non, PD.nrm_bl, PD.nrm_int, PD.nrm_str, PD.nrm_tup, PD.nrm_lst, PD.nrm_dic, PD.nrm_ref, PD.iSeqD, PD.iRng1D, PD.iRng2D, PD.sForD, PD.tLcV, PD.tLcR, PD.tYesD, PD.wipeD, PD.tMethL, PD.rAppD, PD.isRefL, PD.tDicV, PD.keyOf, PD.asDic, PD.srcD, PD.iAnyD, PD.iZipD, PD.iEnumD, PD.tDcV, PD.tDicR, PD.gSubX, PD.rSetX, PD.rIxX, PD.rInD, PD.rInX, PD.rInY, PD.rSumD, PD.tRevLD, PD.tRevX, PD.rSixD, PD.rJoinD, PD.tMethS, PD.rLixD, PD.rPopD, PD.rExtD, PD.tMethA, PD.rSetD, PD.rReprD, PD.eqk_int, PD.eqd_int, PD.eqk_str, PD.eqd_str, PD.eqk_lst0, PD.eqd_lst0, PD.eqk_tup0, PD.eqd_tup0, PD.tdOf, PD.rInW, PD.rIxW, PD.rSetW, PD.gSubW, PD.rLenW, PD.rGetW, PD.rGetAt, PD.tMethW, PD.rSetdW, PD.tDispR, PD.tPairsD, PD.putAll, PD.tDisp1T, PD.gSeqD, PD.rListW, PD.tLenSetD, ↓PM.asSeq_sq, ↓PM.asDic_sq, ↓PM.srcD_sq, ↓PM.tdOf_sq, ↓PM.rIxD_sq, Option.map_some, Option.bind_some, PD.spFn, PD.spDraw, reduceIte, true_and, and_true, or_false, false_or, Bool.not_true, Bool.not_false, Bool.false_eq_true, List.length_cons, List.length_nil, List.set_cons_zero, List.set_cons_succ, PD.HD.set_same, PD.HD.tick_hp, PD.HD.tick_c, PD.HD.tick_dk, PD.HD.set_c, PD.HD.set_dk, $xs,*])
/-! PN10: joint, both, either, less. -/
namespace PM
open PySem PySem.Spec PyProof.Rows PD
def spJoint : SpD := fun ds S Q => ∃ (M1 M2 : Mch) (h : How), ds = [enc M1, enc M2, .str h.str] ∧ M1.Ok ∧ M2.Ok ∧ M1.L = M2.L ∧ Few M1 M2 ∧
  ∀ M' : Mch, M'.Ok → Smallest M' → M'.L = M1.L → (∀ w, M'.acc w = h.op (M1.acc w) (M2.acc w)) → Q (enc M') S
theorem joint_len (ds : List D) (S : HD) (Q : QD) (h : spJoint ds S Q) : ds.length = 3 := by
  obtain ⟨_, _, _, rfl, _⟩ := h
  rfl
mutual
theorem eqv_self : ∀ d : D, okE d = true → PyData.eqv (py d) (py d) = true
  | .non, _ => by simp [py, PyData.eqv]
  | .bl b, _ => by simp [py, PyData.eqv]
  | .int i, _ => by simp [py, PyData.eqv]
  | .str x, _ => by simp [py, PyData.eqv]
  | .tup xs, h => by
    show PyData.eqv (.tuple (pyL xs)) (.tuple (pyL xs)) = true
    unfold PyData.eqv
    exact eqv_selfL xs h
  | .lst xs, h => by
    show PyData.eqv (.list (pyL xs)) (.list (pyL xs)) = true
    unfold PyData.eqv
    exact eqv_selfL xs h
  | .dic _, h => by cases h
  | .ref _, h => by cases h
  | .ty _, h => by cases h
  | .deck, h => by cases h
theorem eqv_selfL : ∀ xs : List D, okEL xs = true → PyData.eqvAll (pyL xs) (pyL xs) = true
  | [], _ => rfl
  | x :: xs, h => by
    have h' : (okE x && okEL xs) = true := h
    rw [Bool.and_eq_true] at h'
    show PyData.eqvAll (py x :: pyL xs) (py x :: pyL xs) = true
    unfold PyData.eqvAll
    rw [eqv_self x h'.1, eqv_selfL xs h'.2]
    rfl
end
theorem eqd_self {d : D} (h : okE d = true) : eqd d d = true := eqv_self d h
theorem eqk_of {d e : D} (h1 : okE d = true) (h2 : okE e = true) (h3 : dep d ≤ 60) : eqk d e = true := by
  unfold eqk
  rw [h1, h2]
  simp [h3]
theorem encC_ok (s : Option Nat) : okE (encC s) = true := by cases s <;> rfl
theorem encC_dep (s : Option Nat) : dep (encC s) = 0 := by cases s <;> simp [encC, dep]
theorem ne_none (p : Pr) : eqk (prD p) (.tup [.non, .non]) = true ∧ eqd (prD p) (.tup [.non, .non]) = decide (p = (none, none)) := by
  obtain ⟨a, b⟩ := p
  refine ⟨eqk_of ?_ rfl ?_, ?_⟩
  · show (okE (encC a) && (okE (encC b) && true)) = true
    rw [encC_ok, encC_ok]
    rfl
  · show dep (.tup [encC a, encC b]) ≤ 60
    simp [dep, depL, encC_dep]
  · cases a <;> cases b <;> simp [eqd, prD, encC, py, pyL, PyData.eqv, PyData.eqvAll]
theorem joint_ok (w : World) (ds : List D) (S : HD) (Q : QD) (h : spJoint ds S Q) : rd_joint w spNextOf spIsIn spEndsAt spShrunk (ends Q) (pad 12 ds) S := by
  obtain ⟨M1, M2, h, rfl, o1, o2, hL, hb, q⟩ := h
  have l1 := o1.l1
  have l3 := o1.l3
  have hsl : (sizeLine : Nat) = 16777216 := rfl
  unfold rd_joint
  refine seq_step fun N1 hN1 => ?_
  have k00 : keyT (.tup [.int 0, .int 0]) = some (prK (some 0, some 0)) := rfl
  simp_all only [k00]
  refine ⟨by decide, prK_dep _, fun p1 hp1 => ⟨by decide, by decide, fun p2 hp2 => ⟨by decide, fun p3 hp3 => ⟨by decide, fun p4 hp4 => ⟨by decide, ?_⟩⟩⟩⟩⟩
  refine hN1 _ _ ?_
  clear hN1 N1
  have n21 : p2 ≠ p1 := fun e => by rw [e, HD.set_same] at hp2; cases hp2
  have n31 : p3 ≠ p1 := fun e => by rw [e, HD.set_ne (Ne.symm n21), HD.set_same] at hp3; cases hp3
  have n32 : p3 ≠ p2 := fun e => by rw [e, HD.set_same] at hp3; cases hp3
  have n43 : p4 ≠ p3 := fun e => by rw [e, HD.set_same] at hp4; cases hp4
  have n42 : p4 ≠ p2 := fun e => by rw [e, HD.set_ne (Ne.symm n32), HD.set_same] at hp4; cases hp4
  have n41 : p4 ≠ p1 := fun e => by rw [e, HD.set_ne (Ne.symm n31), HD.set_ne (Ne.symm n21), HD.set_same] at hp4; cases hp4
  have z2 : S.hp p2 = none := by rw [HD.set_ne n21] at hp2; exact hp2
  have z3 : S.hp p3 = none := by rw [HD.set_ne n32, HD.set_ne n31] at hp3; exact hp3
  have z4 : S.hp p4 = none := by rw [HD.set_ne n43, HD.set_ne n42, HD.set_ne n41] at hp4; exact hp4
  refine seq_step fun N1 hN1 => ?_
  let I : Nat → SD → HD → Prop := fun m σ S' => ∃ (ps : List Pr) (fr : List (List (Option Nat))) (es : List Bool) (v7 v8 v9 v10 v11 : Option D), σ = [some (enc M1), some (enc M2), some (.str h.str), some (.ref p1), some (.ref p2), some (.ref p3), some (.ref p4), v7, v8, v9, v10, v11] ∧
    S'.hp p1 = some (.dct w (plP 0 ps)) ∧ S'.hp p2 = some (.lst (ps.map prD)) ∧ S'.hp p3 = some (.lst (fr.map fun r => .lst (r.map encC))) ∧ S'.hp p4 = some (.lst (es.map .bl)) ∧ Up 0 S S' ∧ JoI M1 M2 h ps fr es ∧ es.length = fr.length ∧ (∀ r ∈ fr, r.length = M1.L) ∧ m = 401 - fr.length
  refine while_go I (n := _) (fun m σ S' N ⟨ps, fr, es, v7, v8, v9, v10, v11, e0, e1, e2, e3, e4, u, J, hel, hw, em⟩ k => ?_) ⟨[(some 0, some 0)], [], [], _, _, _, _, _, rfl, ?_, ?_, ?_, HD.set_same, ((((Up.refl S).new hp1).set z2).set z3).set z4, ⟨by simp, rfl, fun p hp => ?_, fun p hp => ?_, fun i r p hr => (by simp at hr), fun i b p hb => (by simp at hb), by simp⟩, rfl, fun r hr => (by cases hr), rfl⟩
  · rw [HD.set_ne (Ne.symm n41), HD.set_ne (Ne.symm n31), HD.set_ne (Ne.symm n21), HD.set_same]; rfl
  · rw [HD.set_ne (Ne.symm n42), HD.set_ne (Ne.symm n32), HD.set_same]; rfl
  · rw [HD.set_ne (Ne.symm n43), HD.set_same]; rfl
  · rw [List.mem_singleton.mp hp]
    exact ⟨fun t e => (by cases e; exact o1.n1), fun t e => (by cases e; exact o2.n1), by simp⟩
  · rw [List.mem_singleton.mp hp]
    exact ⟨[], fun c hc => (by cases hc), rfl⟩
  subst e0
  have hcount := J.few hb
  by_cases hlt : fr.length < ps.length
  case neg =>
    have hl : decide (((fr.length : Nat) : Int) < ((ps.length : Nat) : Int)) = false := decide_eq_false (by omega)
    generalize hB : (sSeqD (sAsgD (tBin (rIxW w) (tSlot 4) _) _) _ : TSD) = T1
    simp_all only [e2, e3, List.length_map, hl]
    clear hB T1
    refine hN1 _ _ ?_
    have J' := J.len
    obtain ⟨O, A⟩ := J.all o1 o2 hL hb (by omega) (by omega) hw
    have e4' : (S'.del p3).hp p4 = some (.lst (es.map .bl)) := by simp only [HD.del, n43, if_false]; exact e4
    refine ⟨_, _, (CvS.frz (i := 5) rfl e3).trans (CvS.frz (i := 6) rfl e4'), ?_⟩
    unfold enc
    simp_all only [at3_0]
    refine ⟨⟨M1.L, fr, es⟩, false, rfl, O, fun M' o' sm hL' hA hR => ?_⟩
    exact ((u.del z3).del z4).fin (q M' o' sm hL' (fun v => by rw [hA, A]))
  have hl : decide (((fr.length : Nat) : Int) < ((ps.length : Nat) : Int)) = true := decide_eq_true (by omega)
  generalize hB : (sSeqD (sAsgD (tBin (rIxW w) (tSlot 4) _) _) _ : TSD) = T1
  simp_all only [e2, e3, List.length_map, hl]
  subst hB
  have hp : ps[fr.length]? = some ps[fr.length] := by simp [hlt]
  have hpm := J.ok _ (List.getElem_mem hlt)
  have hpr := J.re _ (List.getElem_mem hlt)
  generalize ps[fr.length] = p at hp hpm hpr
  obtain ⟨in1, in2, inn⟩ := hpm
  have a1 : L2.atI (ps.map prD) ((fr.length : Nat) : Int) = some (.tup [encC p.1, encC p.2]) := atI_map hp
  -- state, second
  refine seq_step fun N2 hN2 => ?_
  simp_all only [e2, e3, a1, List.length_map]
  refine hN2 _ _ ?_
  clear hN2 N2
  -- row = []
  refine seq_step fun N2 hN2 => ?_
  walk_at "rdx"
  refine ⟨by decide, fun p5 hp5 => hN2 _ _ ?_⟩
  clear hN2 N2
  have n51 : p1 ≠ p5 := fun e => by rw [← e, e1] at hp5; cases hp5
  have n52 : p2 ≠ p5 := fun e => by rw [← e, e2] at hp5; cases hp5
  have n53 : p3 ≠ p5 := fun e => by rw [← e, e3] at hp5; cases hp5
  have n54 : p4 ≠ p5 := fun e => by rw [← e, e4] at hp5; cases hp5
  have z5 := u.none hp5
  have b1 : (S'.set p5 (.lst [])).hp p1 = some (.dct w (plP 0 ps)) := by rw [HD.set_ne n51]; exact e1
  have b2 : (S'.set p5 (.lst [])).hp p2 = some (.lst (ps.map prD)) := by rw [HD.set_ne n52]; exact e2
  have b3 : (S'.set p5 (.lst [])).hp p3 = some (.lst (fr.map fun r => .lst (r.map encC))) := by rw [HD.set_ne n53]; exact e3
  have b4 : (S'.set p5 (.lst [])).hp p4 = some (.lst (es.map .bl)) := by rw [HD.set_ne n54]; exact e4
  have b5 : (S'.set p5 (.lst [])).hp p5 = some (.lst []) := HD.set_same
  have u5 := u.set (o := .lst []) z5
  generalize hS5 : S'.set p5 (.lst []) = S5 at b1 b2 b3 b4 b5 u5
  -- for at in range(letters)
  refine seq_step fun N2 hN2 => ?_
  generalize hB : (sSeqD (sAsgD (tTupD _) _) _ : TSD) = T1
  unfold enc
  simp_all only [at3_0]
  subst hB
  refine ⟨⟨by omega, by omega⟩, loopD_go (fun i σ S3 => ∃ (ps2 : List Pr) (cur : List (Option Nat)) (v10 v11 : Option D), σ = [some (enc M1), some (enc M2), some (.str h.str), some (.ref p1), some (.ref p2), some (.ref p3), some (.ref p4), some (encC p.1), some (encC p.2), some (.ref p5), v10, v11] ∧
      S3.hp p1 = some (.dct w (plP 0 ps2)) ∧ S3.hp p2 = some (.lst (ps2.map prD)) ∧ S3.hp p3 = some (.lst (fr.map fun r => .lst (r.map encC))) ∧ S3.hp p4 = some (.lst (es.map .bl)) ∧ S3.hp p5 = some (.lst (cur.map encC)) ∧ Up 0 S S3 ∧ JoI M1 M2 h ps2 (fr ++ [cur]) es ∧ cur.length = i ∧ ps2[fr.length]? = some p)
    ⟨ps, [], _, _, rfl, b1, b2, b3, b4, b5, u5, J.row hlt, rfl, hp⟩
    (fun i d σ S3 N3 hi ⟨ps2, cur, v10, v11, j0, j1, j2, j3, j4, j5, j6, j7, j8, j9⟩ k3 => ⟨trivial, ?_⟩) fun σ S3 ⟨ps2, cur, v10, v11, j0, j1, j2, j3, j4, j5, j6, j7, j8, j9⟩ => ⟨trivial, hN2 _ _ ?_⟩⟩
  · subst j0
    obtain ⟨hi1, rfl⟩ := rngD_get hi
    rw [Int.zero_add]
    have hi2 : i < M1.L := by simpa using hi1
    refine seq_step fun N4 hN4 => ?_
    walk_at "rdx"
    refine ⟨M1, p.1, i, rfl, o1, hi2, in1, M2, p.2, i, rfl, o2, hL ▸ hi2, in2, by decide, hN4 _ _ ?_⟩
    clear hN4 N4
    have hq : (M1.nxo p.1 i, M2.nxo p.2 i) = stepP M1 M2 p i := rfl
    have nn := ne_none (stepP M1 M2 p i)
    have kk := prD_key (stepP M1 M2 p i)
    have kd := prK_dep (stepP M1 M2 p i)
    have inq : stepP M1 M2 p i ≠ (none, none) → inP M1 M2 (stepP M1 M2 p i) := fun h => ⟨inO_nx o1, inO_nx o2, h⟩
    have emk : D.tup [encC (M1.nxo p.1 i), encC (M2.nxo p.2 i)] = prD (stepP M1 M2 p i) := rfl
    rw [emk]
    have req : reP M1 M2 (stepP M1 M2 p i) := by
      obtain ⟨v, v1, v2⟩ := hpr
      refine ⟨v ++ [i], fun x hx => (List.mem_append.mp hx).elim (v1 x) fun e => by rw [List.mem_singleton.mp e]; exact hi2, ?_⟩
      rw [pairOf_snoc, v2]
    generalize hqq : stepP M1 M2 p i = qq at nn kk kd inq req
    have nnr : nrm S3 (prD qq) = prD qq := rfl
    have ps2l := j7.few hb
    have gt := getT_P qq ps2 0
    refine seq_step fun N4 hN4 => ?_
    -- the last statement
    have last : ∀ (ps3 : List Pr) (S6 : HD) (x : Option Nat), S6.hp p1 = some (.dct w (plP 0 ps3)) → S6.hp p2 = some (.lst (ps3.map prD)) → S6.hp p3 = some (.lst (fr.map fun r => .lst (r.map encC))) → S6.hp p4 = some (.lst (es.map .bl)) → S6.hp p5 = some (.lst (cur.map encC)) → Up 0 S S6 → JoI M1 M2 h ps3 (fr ++ [cur]) es → ps3[fr.length]? = some p →
        (getT (plP 0 ps3) (prK qq)).getD .non = encC x → ((qq = (none, none) ∧ x = none) ∨ ∃ j, x = some j ∧ ps3[j]? = some qq) → N4 [some (enc M1), some (enc M2), some (.str h.str), some (.ref p1), some (.ref p2), some (.ref p3), some (.ref p4), some (encC p.1), some (encC p.2), some (.ref p5), some (natD i), some (prD qq)] S6 := fun ps3 S6 x c1 c2 c3 c4 c5 c6 c7 c8 c9 c10 => by
      refine hN4 _ _ ?_
      have hid : isDic w S6 (.ref p1) := .inr ⟨plP 0 ps3, by simp only [tdOf, c1]⟩
      simp_all only [c1, c5, kk, c9, List.length_map]
      refine ⟨⟨_, rfl⟩, hid, kd, by omega, k3 _ _ ⟨ps3, cur ++ [x], _, _, rfl, ?_, ?_, ?_, ?_, ?_, c6.set z5, c7.cell c8 ?_, by rw [List.length_append, j8]; rfl, c8⟩⟩
      · rw [HD.set_ne n51]; exact c1
      · rw [HD.set_ne n52]; exact c2
      · rw [HD.set_ne n53]; exact c3
      · rw [HD.set_ne n54]; exact c4
      · rw [HD.set_same, List.map_append]; rfl
      · rw [j8, hqq]; exact c10
    by_cases hnn : qq = (none, none)
    · have hd : decide (qq = (none, none)) = true := decide_eq_true hnn
      simp_all only [nnr, nn.1, nn.2, hd]
      rcases gt with ⟨g1, g2⟩ | ⟨j, g1, g2⟩
      · exact last ps2 S3 none j1 j2 j3 j4 j5 j6 j7 j9 (by rw [g1]; rfl) (.inl ⟨hnn, rfl⟩)
      · exact ((j7.ok _ (List.mem_of_getElem? g2)).2.2 hnn).elim
    · have hd : decide (qq = (none, none)) = false := decide_eq_false hnn
      rcases gt with ⟨g1, g2⟩ | ⟨j, g1, g2⟩
      · have hh : hasT (plP 0 ps2) (prK qq) = false := by unfold hasT; rw [g1]; rfl
        have hput : putT (plP 0 ps2) (prD qq) (prK qq) (natD ps2.length) = plP 0 (ps2 ++ [qq]) := by
          unfold putT
          rw [hh, plP_snoc, Nat.zero_add]
          rfl
        have w2 : (S3.set p1 (.dct w (plP 0 (ps2 ++ [qq])))).hp p2 = some (.lst (ps2.map prD)) := by rw [HD.set_ne n21]; exact j2
        simp_all only [nnr, nn.1, nn.2, hd, j1, j2, kk, hh, plP_len, List.length_map, hput, w2]
        have eh : ps2.map prD ++ [prD qq] = (ps2 ++ [qq]).map prD := by simp
        rw [eh]
        have hqn : qq ∉ ps2 := g2
        refine ⟨kd, kd, by omega, ⟨_, rfl⟩, by omega, last (ps2 ++ [qq]) _ (some ps2.length) ?_ HD.set_same ?_ ?_ ?_ ((j6.set hp1).set z2) (j7.grow (by have := j7.len; simp at this; omega) (inq hnn) req hqn) ?_ ?_ (.inr ⟨_, rfl, by simp⟩)⟩
        · rw [HD.set_ne (Ne.symm n21), HD.set_same]
        · rw [HD.set_ne n32, HD.set_ne n31]; exact j3
        · rw [HD.set_ne n42, HD.set_ne n41]; exact j4
        · rw [HD.set_ne (Ne.symm n52), HD.set_ne (Ne.symm n51)]; exact j5
        · rw [List.getElem?_append_left (List.getElem?_eq_some_iff.mp j9).1]; exact j9
        · rcases getT_P qq (ps2 ++ [qq]) 0 with ⟨_, y2⟩ | ⟨j, y1, y2⟩
          · exact (y2 (by simp)).elim
          · rw [y1, Nat.zero_add]
            by_cases hj : j < ps2.length
            · rw [List.getElem?_append_left hj] at y2
              exact (hqn (List.mem_of_getElem? y2)).elim
            · have := (List.getElem?_eq_some_iff.mp y2).1
              simp at this
              rw [show j = ps2.length by omega]
              rfl
      · have hh : hasT (plP 0 ps2) (prK qq) = true := by unfold hasT; rw [g1]; rfl
        simp_all only [nnr, nn.1, nn.2, hd, j1, kk, hh]
        refine ⟨kd, last ps2 S3 (some j) j1 j2 j3 j4 j5 j6 j7 j9 (by rw [g1, Nat.zero_add]; rfl) (.inr ⟨j, rfl, g2⟩)⟩
  · subst j0
    rw [rngD_len] at j8
    have j8' : cur.length = M1.L := by rw [j8]; rfl
    clear hN2 N2
    -- rows.append(row)
    refine seq_step fun N2 hN2 => ?_
    refine ⟨_, _, CvS.frz (i := 9) rfl j5, ?_⟩
    have d3 : (S3.del p5).hp p3 = some (.lst (fr.map fun r => .lst (r.map encC))) := by simp only [HD.del, n53, if_false]; exact j3
    have cl := j7.len
    have ps2l := j7.few hb
    simp only [List.length_append, List.length_singleton] at cl
    simp_all only [d3, List.length_map]
    refine ⟨⟨_, rfl⟩, by omega, hN2 _ _ ?_⟩
    clear hN2 N2
    have d4 : ((S3.del p5).set p3 (.lst (fr.map (fun r => D.lst (r.map encC)) ++ [.lst (cur.map encC)]))).hp p4 = some (.lst (es.map .bl)) := by rw [HD.set_ne n43]; simp only [HD.del, n54, if_false]; exact j4
    simp_all only [d4, List.length_map]
    refine ⟨⟨_, rfl⟩, M1, p.1, rfl, o1, in1, M2, p.2, rfl, o2, in2, h, M1.finO p.1, M2.finO p.2, rfl, ?_⟩
    simp_all only [d4, List.length_map]
    refine ⟨by omega, k (401 - (fr ++ [cur]).length) _ _ ?_ ⟨ps2, fr ++ [cur], es ++ [h.op (M1.finO p.1) (M2.finO p.2)], _, _, _, _, _, rfl, ?_, ?_, ?_, ?_, (((j6.del z5).set z3).set z4), j7.end' (by rw [hel]; exact j9), by simp [hel], fun r hr => ?_, rfl⟩⟩
    · simp; omega
    · rw [HD.set_ne (Ne.symm n41), HD.set_ne (Ne.symm n31)]; simp only [HD.del, n51, if_false]; exact j1
    · rw [HD.set_ne (Ne.symm n42), HD.set_ne (Ne.symm n32)]; simp only [HD.del, n52, if_false]; exact j2
    · rw [HD.set_ne (Ne.symm n43), HD.set_same, List.map_append]; rfl
    · rw [HD.set_same, List.map_append]; rfl
    · rcases List.mem_append.mp hr with h | h
      · exact hw r h
      · rw [List.mem_singleton.mp h, j8']
end PM
end

section
local macro_rules | `(tactic| walk_at "rdx") => `(tactic| simp only [PD.pad, PD.gt_z, PD.gt_s, PD.st_z, PD.st_s, PD.sNextD, PD.sSeqD, PD.sBreakD, PD.sContD, PD.sDropD, PD.sRetD, PD.sRetND, PD.sIfD, PD.sNeverD, PD.sAsgD, PD.sPar2, PD.sPar3, PD.gNameD, PD.gNilD, PD.gConsD, PD.gTupD, PD.gSubD, PD.tNilD, PD.tConsD, PD.tTupD, PD.tLstV, PD.tLstR, PD.tBin, PD.tTst, PD.tAndD, PD.tOrD, PD.tNotD, PD.tIfD, PD.tAndV, PD.tOrV, PD.tNotV, PD.tUnD, PD.rNeg, PD.tCallD, PD.tSlot, PD.tCD, PD.tChainD, PD.rIsN, PD.rNotN, PD.rIsiD, PD.isi_non, PD.isi_bl, PD.isi_int, PD.isi_str, PD.isi_tup, PD.isi_lst, PD.isi_dic, PD.Ty.name, PD.rCmpI, PD.fLt, PD.fLe, PD.fGt, PD.fGe, PD.rAddD, PD.rSubD, PD.rFdivD, PD.rModD, PD.rPowD, PD.rMulD, PD.rAddR, PD.rMulR, PD.asSeq, PD.asLst, PD.rLenD, PD.rTupleD, PD.rListV, PD.rListR, PD.rIntD, PD.rBoolD, PD.rAbsD, PD.rIxD, PD.oNone, PD.oSome, PD.tSlD, PD.rSlD, PD.tRevTD, PD.rEqD, PD.rNeD, PD.nrm_non, PD.nrm_bl, PD.nrm_int, PD.nrm_str, PD.nrm_tup, PD.nrm_lst, PD.nrm_dic, PD.nrm_ref, PD.iSeqD, PD.iRng1D, PD.iRng2D, PD.sForD, PD.tLcV, PD.tLcR, PD.tYesD, PD.wipeD, PD.tMethL, PD.rAppD, PD.isRefL, PD.tDicV, PD.keyOf, PD.asDic, PD.srcD, PD.iAnyD, PD.iZipD, PD.iEnumD, PD.tDcV, PD.tDicR, PD.gSubX, PD.rSetX, PD.rIxX, PD.rInD, PD.rInX, PD.rInY, PD.rSumD, PD.tRevLD, PD.tRevX, PD.rSixD, PD.rJoinD, PD.tMethS, PD.rLixD, PD.rPopD, PD.rExtD, PD.tMethA, PD.rSetD, PD.rReprD, PD.eqk_int, PD.eqd_int, PD.eqk_str, PD.eqd_str, PD.eqk_lst0, PD.eqd_lst0, PD.eqk_tup0, PD.eqd_tup0, PD.tdOf, PD.rInW, PD.rIxW, PD.rSetW, PD.gSubW, PD.rLenW, PD.rGetW, PD.rGetAt, PD.tMethW, PD.rSetdW, PD.tDispR, PD.tPairsD, PD.putAll, PD.tDisp1T, PD.gSeqD, PD.rListW, PD.tLenSetD, ↓PM.asSeq_sq, ↓PM.asDic_sq, ↓PM.srcD_sq, ↓PM.tdOf_sq, ↓PM.rIxD_sq, Option.map_some, Option.bind_some, PD.spFn, PD.spDraw, reduceIte, true_and, and_true, or_false, false_or, Bool.not_true, Bool.not_false, Bool.false_eq_true, List.length_cons, List.length_nil, List.set_cons_zero, List.set_cons_succ, PD.HD.set_same, PD.HD.tick_hp, PD.HD.tick_c, PD.HD.tick_dk, PD.HD.set_c, PD.HD.set_dk])
local macro_rules | `(tactic| simp_all only [$xs,*]) => `(tactic| simp only [PD.pad, PD.gt_z, PD.gt_s, PD.st_z, PD.st_s, PD.sNextD, PD.sSeqD, PD.sBreakD, PD.sContD, PD.sDropD, PD.sRetD, PD.sRetND, PD.sIfD, PD.sNeverD, PD.sAsgD, PD.sPar2, PD.sPar3, PD.gNameD, PD.gNilD, PD.gConsD, PD.gTupD, PD.gSubD, PD.tNilD, PD.tConsD, PD.tTupD, PD.tLstV, PD.tLstR, PD.tBin, PD.tTst, PD.tAndD, PD.tOrD, PD.tNotD, PD.tIfD, PD.tAndV, PD.tOrV, PD.tNotV, PD.tUnD, PD.rNeg, PD.tCallD, PD.tSlot, PD.tCD, PD.tChainD, PD.rIsN, PD.rNotN, PD.rIsiD, PD.isi_non, PD.isi_bl, PD.isi_int, PD.isi_str, PD.isi_tup, PD.isi_lst, PD.isi_dic, PD.Ty.name, PD.rCmpI, PD.fLt, PD.fLe, PD.fGt, PD.fGe, PD.rAddD, PD.rSubD, PD.rFdivD, PD.rModD, PD.rPowD, PD.rMulD, PD.rAddR, PD.rMulR, PD.asSeq, PD.asLst, PD.rLenD, PD.rTupleD, PD.rListV, PD.rListR, PD.rIntD, PD.rBoolD, PD.rAbsD, PD.rIxD, PD.oNone, PD.oSome, PD.tSlD, PD.rSlD, PD.tRevTD, PD.rEqD, PD.rNeD, PD.nrm_non, PD.nrm_bl, PD.nrm_int, PD.nrm_str, PD.nrm_tup, PD.nrm_lst, PD.nrm_dic, PD.nrm_ref, PD.iSeqD, PD.iRng1D, PD.iRng2D, PD.sForD, PD.tLcV, PD.tLcR, PD.tYesD, PD.wipeD, PD.tMethL, PD.rAppD, PD.isRefL, PD.tDicV, PD.keyOf, PD.asDic, PD.srcD, PD.iAnyD, PD.iZipD, PD.iEnumD, PD.tDcV, PD.tDicR, PD.gSubX, PD.rSetX, PD.rIxX, PD.rInD, PD.rInX, PD.rInY, PD.rSumD, PD.tRevLD, PD.tRevX, PD.rSixD, PD.rJoinD, PD.tMethS, PD.rLixD, PD.rPopD, PD.rExtD, PD.tMethA, PD.rSetD, PD.rReprD, PD.eqk_int, PD.eqd_int, PD.eqk_str, PD.eqd_str, PD.eqk_lst0, PD.eqd_lst0, PD.eqk_tup0, PD.eqd_tup0, PD.tdOf, PD.rInW, PD.rIxW, PD.rSetW, PD.gSubW, PD.rLenW, PD.rGetW, PD.rGetAt, PD.tMethW, PD.rSetdW, PD.tDispR, PD.tPairsD, PD.putAll, PD.tDisp1T, PD.gSeqD, PD.rListW, PD.tLenSetD, ↓PM.asSeq_sq, ↓PM.asDic_sq, ↓PM.srcD_sq, ↓PM.tdOf_sq, ↓PM.rIxD_sq, Option.map_some, Option.bind_some, PD.spFn, PD.spDraw, reduceIte, true_and, and_true, or_false, false_or, Bool.not_true, Bool.not_false, Bool.false_eq_true, List.length_cons, List.length_nil, List.set_cons_zero, List.set_cons_succ, PD.HD.set_same, PD.HD.tick_hp, PD.HD.tick_c, PD.HD.tick_dk, PD.HD.set_c, PD.HD.set_dk, $xs,*])
/-! PN11: both, either, less; the order of words; what apart finds. -/
namespace PM
open PySem PySem.Spec PyProof.Rows PD
def spHow (h : How) : SpD := fun ds S Q => ∃ (M1 M2 : Mch), ds = [enc M1, enc M2] ∧ M1.Ok ∧ M2.Ok ∧ M1.L = M2.L ∧ Few M1 M2 ∧
  ∀ M' : Mch, M'.Ok → Smallest M' → M'.L = M1.L → (∀ w, M'.acc w = h.op (M1.acc w) (M2.acc w)) → Q (enc M') S
theorem how_len (h : How) (ds : List D) (S : HD) (Q : QD) (hh : spHow h ds S Q) : ds.length = 2 := by
  obtain ⟨_, _, rfl, _⟩ := hh
  rfl
theorem both_ok (ds : List D) (S : HD) (Q : QD) (h : spHow .both ds S Q) : rd_both spJoint (ends Q) (pad 2 ds) S := by
  obtain ⟨M1, M2, rfl, o1, o2, hL, hb, q⟩ := h
  unfold rd_both
  walk_at "rdx"
  exact ⟨M1, M2, .both, rfl, o1, o2, hL, hb, fun M' a b c d => fin.here (q M' a b c d)⟩
theorem either_ok (ds : List D) (S : HD) (Q : QD) (h : spHow .either ds S Q) : rd_either spJoint (ends Q) (pad 2 ds) S := by
  obtain ⟨M1, M2, rfl, o1, o2, hL, hb, q⟩ := h
  unfold rd_either
  walk_at "rdx"
  exact ⟨M1, M2, .either, rfl, o1, o2, hL, hb, fun M' a b c d => fin.here (q M' a b c d)⟩
theorem less_ok (ds : List D) (S : HD) (Q : QD) (h : spHow .less ds S Q) : rd_less spJoint (ends Q) (pad 2 ds) S := by
  obtain ⟨M1, M2, rfl, o1, o2, hL, hb, q⟩ := h
  unfold rd_less
  walk_at "rdx"
  exact ⟨M1, M2, .less, rfl, o1, o2, hL, hb, fun M' a b c d => fin.here (q M' a b c d)⟩
/-! ### words in order -/
def llt : List Nat → List Nat → Prop
  | [], [] => False
  | [], _ :: _ => True
  | _ :: _, [] => False
  | a :: u, b :: v => a < b ∨ (a = b ∧ llt u v)
def wlt (u v : List Nat) : Prop := u.length < v.length ∨ (u.length = v.length ∧ llt u v)
def wle (u v : List Nat) : Prop := u = v ∨ wlt u v
theorem llt_irr : ∀ u, ¬ llt u u
  | [], h => h
  | a :: u, h => h.elim (Nat.lt_irrefl a) fun z => llt_irr u z.2
theorem llt_tr : ∀ {u v w : List Nat}, llt u v → llt v w → llt u w
  | [], [], _, h, _ => h.elim
  | [], _ :: _, [], _, h => h.elim
  | [], _ :: _, _ :: _, _, _ => trivial
  | _ :: _, [], _, h, _ => h.elim
  | _ :: _, _ :: _, [], _, h => h.elim
  | a :: u, b :: v, c :: w, h1, h2 => by
    rcases h1 with h1 | ⟨e1, h1⟩
    · rcases h2 with h2 | ⟨e2, h2⟩
      · exact .inl (Nat.lt_trans h1 h2)
      · exact .inl (e2 ▸ h1)
    · rcases h2 with h2 | ⟨e2, h2⟩
      · exact .inl (e1 ▸ h2)
      · exact .inr ⟨e1.trans e2, llt_tr h1 h2⟩
theorem llt_tot : ∀ u v : List Nat, u.length = v.length → llt u v ∨ u = v ∨ llt v u
  | [], [], _ => .inr (.inl rfl)
  | [], _ :: _, h => by simp at h
  | _ :: _, [], h => by simp at h
  | a :: u, b :: v, h => by
    rcases Nat.lt_trichotomy a b with z | z | z
    · exact .inl (.inl z)
    · rcases llt_tot u v (by simpa using h) with y | y | y
      · exact .inl (.inr ⟨z, y⟩)
      · exact .inr (.inl (by rw [z, y]))
      · exact .inr (.inr (.inr ⟨z.symm, y⟩))
    · exact .inr (.inr (.inl z))
theorem llt_snoc : ∀ {u v : List Nat} {a b : Nat}, u.length = v.length → llt u v → llt (u ++ [a]) (v ++ [b])
  | [], [], _, _, _, h => h.elim
  | [], _ :: _, _, _, h, _ => by simp at h
  | _ :: _, [], _, _, h, _ => by simp at h
  | x :: u, y :: v, a, b, h, h2 => by
    rcases h2 with h2 | ⟨e, h2⟩
    · exact .inl h2
    · exact .inr ⟨e, llt_snoc (by simpa using h) h2⟩
theorem llt_last : ∀ {u : List Nat} {a b : Nat}, a < b → llt (u ++ [a]) (u ++ [b])
  | [], _, _, h => .inl h
  | x :: u, a, b, h => .inr ⟨rfl, llt_last h⟩
theorem wlt_irr (u : List Nat) : ¬ wlt u u := fun h => h.elim (Nat.lt_irrefl _) fun z => llt_irr u z.2
theorem wlt_tr {u v w : List Nat} (h1 : wlt u v) (h2 : wlt v w) : wlt u w := by
  rcases h1 with h1 | ⟨e1, h1⟩ <;> rcases h2 with h2 | ⟨e2, h2⟩
  · exact .inl (Nat.lt_trans h1 h2)
  · exact .inl (e2 ▸ h1)
  · exact .inl (e1 ▸ h2)
  · exact .inr ⟨e1.trans e2, llt_tr h1 h2⟩
theorem wle_tr {u v w : List Nat} (h1 : wle u v) (h2 : wle v w) : wle u w := by
  rcases h1 with rfl | h1
  · exact h2
  · rcases h2 with rfl | h2
    · exact .inr h1
    · exact .inr (wlt_tr h1 h2)
theorem wlt_le {u v w : List Nat} (h1 : wlt u v) (h2 : wle v w) : wlt u w := by
  rcases h2 with rfl | h2
  · exact h1
  · exact wlt_tr h1 h2
theorem wle_lt {u v w : List Nat} (h1 : wle u v) (h2 : wlt v w) : wlt u w := by
  rcases h1 with rfl | h1
  · exact h2
  · exact wlt_tr h1 h2
theorem wle_anti {u v : List Nat} (h1 : wle u v) (h2 : wle v u) : u = v := by
  rcases h1 with h1 | h1
  · exact h1
  · exact (wlt_irr u (wlt_le h1 h2)).elim
theorem wle_tot (u v : List Nat) : wle u v ∨ wlt v u := by
  rcases Nat.lt_trichotomy u.length v.length with h | h | h
  · exact .inl (.inr (.inl h))
  · rcases llt_tot u v h with z | z | z
    · exact .inl (.inr (.inr ⟨h, z⟩))
    · exact .inl (.inl z)
    · exact .inr (.inr ⟨h.symm, z⟩)
  · exact .inr (.inl h)
theorem wlt_snoc {u v : List Nat} (a b : Nat) (h : wlt u v) : wlt (u ++ [a]) (v ++ [b]) := by
  rcases h with h | ⟨e, h⟩
  · exact .inl (by simp; omega)
  · exact .inr ⟨by simp [e], llt_snoc e h⟩
theorem wlt_last (u : List Nat) {a b : Nat} (h : a < b) : wlt (u ++ [a]) (u ++ [b]) := .inr ⟨by simp, llt_last h⟩
theorem wle_snoc {u v : List Nat} (a : Nat) (h : wle u v) : wle (u ++ [a]) (v ++ [a]) := by
  rcases h with rfl | h
  · exact .inl rfl
  · exact .inr (wlt_snoc a a h)
theorem wlt_app (u : List Nat) (a : Nat) : wlt u (u ++ [a]) := .inl (by simp)
/-- what apart tells -/
def ApartOk (M1 M2 : Mch) : Option (List Nat) → Prop
  | none => ∀ w, M1.acc w = M2.acc w
  | some w => WordOk M1 w ∧ M1.acc w ≠ M2.acc w ∧ ∀ v, M1.acc v ≠ M2.acc v → wle w v
theorem apart_one {M1 M2 : Mch} {r r' : Option (List Nat)} (h : ApartOk M1 M2 r) (h' : ApartOk M1 M2 r') : r = r' := by
  cases r with
  | none =>
    cases r' with
    | none => rfl
    | some w => exact (h'.2.1 (h w)).elim
  | some w =>
    cases r' with
    | none => exact (h.2.1 (h' w)).elim
    | some w' => rw [wle_anti (h.2.2 w' h'.2.1) (h'.2.2 w h.2.1)]
theorem apart_swap {M1 M2 : Mch} (hL : M1.L = M2.L) {r : Option (List Nat)} (h : ApartOk M1 M2 r) : ApartOk M2 M1 r := by
  cases r with
  | none => exact fun w => (h w).symm
  | some w => exact ⟨fun c hc => hL ▸ h.1 c hc, fun e => h.2.1 e.symm, fun v hv => h.2.2 v fun e => hv e.symm⟩
theorem acc_run (M : Mch) (w : List Nat) : M.acc w = M.finO (M.run (some 0) w) := by
  unfold Mch.acc Mch.finO
  rfl
abbrev En := List Nat × Pr
/-- the search: at entries done, of the next one the letters below c -/
structure ApI (M1 M2 : Mch) (ws : List En) (at' c : Nat) : Prop where
  z : ws[0]? = some ([], (some 0, some 0))
  srt : ws.Pairwise fun a b => wlt a.1 b.1
  ok : ∀ e ∈ ws, pairOf M1 M2 e.1 = e.2 ∧ WordOk M1 e.1 ∧ inP M1 M2 e.2
  nd : (ws.map (·.2)).Nodup
  par : ∀ (i : Nat) (e : En), ws[i]? = some e → e.1.length ≤ i ∧ (e.1 = [] ∨ ∃ j f c', ws[j]? = some f ∧ e.1 = f.1 ++ [c'] ∧ (j < at' ∨ (j = at' ∧ c' < c)))
  loc : ∀ (i : Nat) (e : En) (c' : Nat), ws[i]? = some e → (i < at' ∨ (i = at' ∧ c' < c)) → c' < M1.L → stepP M1 M2 e.2 c' ≠ (none, none) → ∃ e2 ∈ ws, e2.2 = stepP M1 M2 e.2 c' ∧ wle e2.1 (e.1 ++ [c'])
  eq : ∀ (i : Nat) (e : En), i < at' → ws[i]? = some e → M1.finO e.2.1 = M2.finO e.2.2
theorem ApI.lt {M1 M2 : Mch} {ws : List En} {a c : Nat} (J : ApI M1 M2 ws a c) {i j : Nat} {e f : En} (hi : ws[i]? = some e) (hj : ws[j]? = some f) (h : i < j) : wlt e.1 f.1 := by
  obtain ⟨h1, rfl⟩ := List.getElem?_eq_some_iff.mp hi
  obtain ⟨h2, rfl⟩ := List.getElem?_eq_some_iff.mp hj
  exact List.pairwise_iff_getElem.mp J.srt i j h1 h2 h
theorem ApI.le {M1 M2 : Mch} {ws : List En} {a c : Nat} (J : ApI M1 M2 ws a c) {i j : Nat} {e f : En} (hi : ws[i]? = some e) (hj : ws[j]? = some f) (h : i ≤ j) : wle e.1 f.1 := by
  by_cases he : i = j
  · subst he
    rw [hi] at hj
    cases hj
    exact .inl rfl
  · exact .inr (J.lt hi hj (by omega))
/-- all words so far are ahead of the next one -/
theorem ApI.below {M1 M2 : Mch} {ws : List En} {a c : Nat} (J : ApI M1 M2 ws a c) {e : En} (he : ws[a]? = some e) : ∀ f ∈ ws, wlt f.1 (e.1 ++ [c]) := fun f hf => by
  obtain ⟨i, hi⟩ := List.mem_iff_getElem?.mp hf
  rcases (J.par i f hi).2 with h | ⟨j, g, c', h1, h2, h3⟩
  · rw [h]; exact .inl (by simp)
  · rw [h2]
    rcases h3 with h3 | ⟨rfl, h3⟩
    · exact wlt_snoc _ _ (J.lt h1 he h3)
    · rw [he] at h1
      cases h1
      exact wlt_last _ h3
theorem ApI.old {M1 M2 : Mch} {ws : List En} {a c : Nat} (J : ApI M1 M2 ws a c) {e : En} (he : ws[a]? = some e) (h : stepP M1 M2 e.2 c = (none, none) ∨ ∃ e2 ∈ ws, e2.2 = stepP M1 M2 e.2 c) : ApI M1 M2 ws a (c + 1) where
  z := J.z
  srt := J.srt
  ok := J.ok
  nd := J.nd
  par := fun i f hf => ⟨(J.par i f hf).1, (J.par i f hf).2.imp id fun ⟨j, g, c', h1, h2, h3⟩ => ⟨j, g, c', h1, h2, h3.imp id fun z => ⟨z.1, by omega⟩⟩⟩
  loc := fun i f c' hf hp hl hn => by
    by_cases hc : i = a ∧ c' = c
    · obtain ⟨rfl, rfl⟩ := hc
      rw [he] at hf
      cases hf
      rcases h with h | ⟨e2, h1, h2⟩
      · exact (hn h).elim
      · exact ⟨e2, h1, h2, .inr (J.below he e2 h1)⟩
    · exact J.loc i f c' hf (hp.imp id fun ⟨h1, h2⟩ => ⟨h1, by have : ¬ (c' = c) := fun z => hc ⟨h1, z⟩; omega⟩) hl hn
  eq := J.eq
theorem ApI.new {M1 M2 : Mch} (o1 : M1.Ok) (o2 : M2.Ok) {ws : List En} {a c : Nat} (J : ApI M1 M2 ws a c) {e : En} (he : ws[a]? = some e) (hc : c < M1.L) (hn : stepP M1 M2 e.2 c ≠ (none, none)) (hk : stepP M1 M2 e.2 c ∉ ws.map (·.2)) : ApI M1 M2 (ws ++ [(e.1 ++ [c], stepP M1 M2 e.2 c)]) a (c + 1) where
  z := by rw [List.getElem?_append_left (List.getElem?_eq_some_iff.mp J.z).1]; exact J.z
  srt := by
    rw [List.pairwise_append]
    exact ⟨J.srt, List.pairwise_singleton _ _, fun f hf g hg => by rw [List.mem_singleton.mp hg]; exact J.below he f hf⟩
  ok := fun f hf => by
    rcases List.mem_append.mp hf with h | h
    · exact J.ok f h
    · rw [List.mem_singleton.mp h]
      obtain ⟨h1, h2, _⟩ := J.ok e (List.mem_of_getElem? he)
      refine ⟨by rw [pairOf_snoc, h1], fun x hx => ?_, inO_nx o1, inO_nx o2, hn⟩
      rcases List.mem_append.mp hx with hx | hx
      · exact h2 x hx
      · rw [List.mem_singleton.mp hx]; exact hc
  nd := by rw [List.map_append]; exact nodup_snoc J.nd hk
  par := fun i f hf => by
    have ha := (List.getElem?_eq_some_iff.mp he).1
    by_cases hi : i < ws.length
    · rw [List.getElem?_append_left hi] at hf
      exact ⟨(J.par i f hf).1, (J.par i f hf).2.imp id fun ⟨j, g, c', h1, h2, h3⟩ => ⟨j, g, c', by rw [List.getElem?_append_left (List.getElem?_eq_some_iff.mp h1).1]; exact h1, h2, h3.imp id fun z => ⟨z.1, by omega⟩⟩⟩
    · have := (List.getElem?_eq_some_iff.mp hf).1
      simp at this
      have hi' : i = ws.length := by omega
      subst hi'
      simp at hf
      subst hf
      refine ⟨?_, .inr ⟨a, e, c, by rw [List.getElem?_append_left ha]; exact he, rfl, .inr ⟨rfl, by omega⟩⟩⟩
      have := (J.par a e he).1
      simp
      omega
  loc := fun i f c' hf hp hl hs => by
    have ha := (List.getElem?_eq_some_iff.mp he).1
    have hi : i < ws.length := by rcases hp with hp | hp <;> omega
    rw [List.getElem?_append_left hi] at hf
    by_cases hc' : i = a ∧ c' = c
    · obtain ⟨rfl, rfl⟩ := hc'
      rw [he] at hf
      cases hf
      exact ⟨_, List.mem_append_right _ (List.mem_singleton.mpr rfl), rfl, .inl rfl⟩
    · obtain ⟨e2, h1, h2⟩ := J.loc i f c' hf (hp.imp id fun ⟨h1, h2⟩ => ⟨h1, by have : ¬ (c' = c) := fun z => hc' ⟨h1, z⟩; omega⟩) hl hs
      exact ⟨e2, List.mem_append_left _ h1, h2⟩
  eq := fun i f hi hf => by
    have ha := (List.getElem?_eq_some_iff.mp he).1
    rw [List.getElem?_append_left (by omega)] at hf
    exact J.eq i f hi hf
theorem ApI.next {M1 M2 : Mch} {ws : List En} {a : Nat} (J : ApI M1 M2 ws a M1.L) (hc : ∀ i e, i ≤ a → ws[i]? = some e → M1.finO e.2.1 = M2.finO e.2.2) : ApI M1 M2 ws (a + 1) 0 where
  z := J.z
  srt := J.srt
  ok := J.ok
  nd := J.nd
  par := fun i f hf => ⟨(J.par i f hf).1, (J.par i f hf).2.imp id fun ⟨j, g, c', h1, h2, h3⟩ => ⟨j, g, c', h1, h2, .inl (by rcases h3 with h3 | h3 <;> omega)⟩⟩
  loc := fun i f c' hf hp hl hs => J.loc i f c' hf (by rcases hp with hp | hp <;> omega) hl hs
  eq := fun i e hi he => hc i e (by omega) he
/-- a word is there, or an entry not yet done is ahead of it -/
theorem ApI.cover {M1 M2 : Mch} {ws : List En} {a : Nat} (J : ApI M1 M2 ws a 0) : ∀ (n : Nat) (v : List Nat), v.length = n → WordOk M1 v → pairOf M1 M2 v ≠ (none, none) → (∃ e ∈ ws, e.2 = pairOf M1 M2 v ∧ wle e.1 v) ∨ ∃ i e, a ≤ i ∧ ws[i]? = some e ∧ wle e.1 v
  | 0, v, hv, _, _ => by
    have : v = [] := List.length_eq_zero_iff.mp hv
    subst this
    exact .inl ⟨_, List.mem_of_getElem? J.z, rfl, .inl rfl⟩
  | n + 1, v, hv, hw, hp => by
    rcases nil_or_snoc v with rfl | ⟨u, c, rfl⟩
    · simp at hv
    · have hu : u.length = n := by simpa using hv
      have hwu : WordOk M1 u := fun x hx => hw x (List.mem_append_left _ hx)
      have hcl : c < M1.L := hw c (by simp)
      rw [pairOf_snoc] at hp ⊢
      have hpu : pairOf M1 M2 u ≠ (none, none) := fun e => hp (by rw [e]; rfl)
      rcases J.cover n u hu hwu hpu with ⟨e, h1, h2, h3⟩ | ⟨i, e, h1, h2, h3⟩
      · obtain ⟨i, hi⟩ := List.mem_iff_getElem?.mp h1
        by_cases hia : i < a
        · obtain ⟨e2, g1, g2, g3⟩ := J.loc i e c hi (.inl hia) hcl (by rw [h2]; exact hp)
          exact .inl ⟨e2, g1, by rw [g2, h2], wle_tr g3 (wle_snoc c h3)⟩
        · exact .inr ⟨i, e, by omega, hi, wle_tr h3 (.inr (wlt_app u c))⟩
      · exact .inr ⟨i, e, h1, h2, wle_tr h3 (.inr (wlt_app u c))⟩
theorem ApI.found {M1 M2 : Mch} (o1 : M1.Ok) (o2 : M2.Ok) (hL : M1.L = M2.L) {ws : List En} {a : Nat} (J : ApI M1 M2 ws a 0) {e : En} (he : ws[a]? = some e) (hne : M1.finO e.2.1 ≠ M2.finO e.2.2) : ApartOk M1 M2 (some e.1) := by
  obtain ⟨h1, h2, h3⟩ := J.ok e (List.mem_of_getElem? he)
  have r1 : M1.run (some 0) e.1 = e.2.1 := congrArg Prod.fst h1
  have r2 : M2.run (some 0) e.1 = e.2.2 := congrArg Prod.snd h1
  refine ⟨h2, by rw [acc_run, acc_run, r1, r2]; exact hne, fun v hv => ?_⟩
  have hw : WordOk M1 v := by
    cases ha : M1.acc v with
    | true => exact acc_ok o1 (s := 0) ha
    | false =>
      cases hb : M2.acc v with
      | false => rw [ha, hb] at hv; exact (hv rfl).elim
      | true => exact fun c hc => hL ▸ acc_ok o2 (s := 0) hb c hc
  have hp : pairOf M1 M2 v ≠ (none, none) := fun z => hv (by
    have z1 : M1.run (some 0) v = none := congrArg Prod.fst z
    have z2 : M2.run (some 0) v = none := congrArg Prod.snd z
    rw [acc_run, acc_run, z1, z2]
    rfl)
  rcases J.cover v.length v rfl hw hp with ⟨f, g1, g2, g3⟩ | ⟨i, f, g1, g2, g3⟩
  · obtain ⟨i, hi⟩ := List.mem_iff_getElem?.mp g1
    have hia : a ≤ i := by
      apply Nat.le_of_not_lt
      intro z
      have := J.eq i f z hi
      rw [g2] at this
      exact hv (by rw [acc_run, acc_run]; exact this)
    exact wle_tr (J.le he hi hia) g3
  · exact wle_tr (J.le he g2 g1) g3
theorem ApI.none' {M1 M2 : Mch} (o1 : M1.Ok) (o2 : M2.Ok) (hL : M1.L = M2.L) {ws : List En} {a : Nat} (J : ApI M1 M2 ws a 0) (ha : ws.length ≤ a) : ApartOk M1 M2 none := fun v => by
  apply Classical.byContradiction
  intro hv
  have hw : WordOk M1 v := by
    cases ha : M1.acc v with
    | true => exact acc_ok o1 (s := 0) ha
    | false =>
      cases hb : M2.acc v with
      | false => rw [ha, hb] at hv; exact (hv rfl).elim
      | true => exact fun c hc => hL ▸ acc_ok o2 (s := 0) hb c hc
  have hp : pairOf M1 M2 v ≠ (none, none) := fun z => hv (by
    have z1 : M1.run (some 0) v = none := congrArg Prod.fst z
    have z2 : M2.run (some 0) v = none := congrArg Prod.snd z
    rw [acc_run, acc_run, z1, z2]
    rfl)
  rcases J.cover v.length v rfl hw hp with ⟨f, g1, g2, g3⟩ | ⟨i, f, g1, g2, g3⟩
  · obtain ⟨i, hi⟩ := List.mem_iff_getElem?.mp g1
    have := J.eq i f (by have := (List.getElem?_eq_some_iff.mp hi).1; omega) hi
    rw [g2] at this
    exact hv (by rw [acc_run, acc_run]; exact this)
  · have := (List.getElem?_eq_some_iff.mp g2).1
    omega
theorem api_0 {M1 M2 : Mch} (o1 : M1.Ok) (o2 : M2.Ok) : ApI M1 M2 [([], (some 0, some 0))] 0 0 where
  z := rfl
  srt := List.pairwise_singleton _ _
  ok := fun e he => by
    rw [List.mem_singleton.mp he]
    exact ⟨rfl, fun _ h => (by cases h), fun t e => (by cases e; exact o1.n1), fun t e => (by cases e; exact o2.n1), by simp⟩
  nd := by simp
  par := fun i e he => by
    have := (List.getElem?_eq_some_iff.mp he).1
    simp at this
    subst this
    simp at he
    subst he
    exact ⟨Nat.le_refl _, .inl rfl⟩
  loc := fun i e c' _ hp => by rcases hp with hp | hp <;> omega
  eq := fun i e hi => by omega
end PM
end

section
local macro_rules | `(tactic| walk_at "rdx") => `(tactic| simp only [PD.pad, PD.gt_z, PD.gt_s, PD.st_z, PD.st_s, PD.sNextD, PD.sSeqD, PD.sBreakD, PD.sContD, PD.sDropD, PD.sRetD, PD.sRetND, PD.sIfD, PD.sNeverD, PD.sAsgD, PD.sPar2, PD.sPar3, PD.gNameD, PD.gNilD, PD.gConsD, PD.gTupD, PD.gSubD, PD.tNilD, PD.tConsD, PD.tTupD, PD.tLstV, PD.tLstR, PD.tBin, PD.tTst, PD.tAndD, PD.tOrD, PD.tNotD, PD.tIfD, PD.tAndV, PD.tOrV, PD.tNotV, PD.tUnD, PD.rNeg, PD.tCallD, PD.tSlot, PD.tCD, PD.tChainD, PD.rIsN, PD.rNotN, PD.rIsiD, PD.isi_non, PD.isi_bl, PD.isi_int, PD.isi_str, PD.isi_tup, PD.isi_lst, PD.isi_dic, PD.Ty.name, PD.rCmpI, PD.fLt, PD.fLe, PD.fGt, PD.fGe, PD.rAddD, PD.rSubD, PD.rFdivD, PD.rModD, PD.rPowD, PD.rMulD, PD.rAddR, PD.rMulR, PD.asSeq, PD.asLst, PD.rLenD, PD.rTupleD, PD.rListV, PD.rListR, PD.rIntD, PD.rBoolD, PD.rAbsD, PD.rIxD, PD.oNone, PD.oSome, PD.tSlD, PD.rSlD, PD.tRevTD, PD.rEqD, PD.rNeD, PD.nrm_non, PD.nrm_bl, PD.nrm_int, PD.nrm_str, PD.nrm_tup, PD.nrm_lst, PD.nrm_dic, PD.nrm_ref, PD.iSeqD, PD.iRng1D, PD.iRng2D, PD.sForD, PD.tLcV, PD.tLcR, PD.tYesD, PD.wipeD, PD.tMethL, PD.rAppD, PD.isRefL, PD.tDicV, PD.keyOf, PD.asDic, PD.srcD, PD.iAnyD, PD.iZipD, PD.iEnumD, PD.tDcV, PD.tDicR, PD.gSubX, PD.rSetX, PD.rIxX, PD.rInD, PD.rInX, PD.rInY, PD.rSumD, PD.tRevLD, PD.tRevX, PD.rSixD, PD.rJoinD, PD.tMethS, PD.rLixD, PD.rPopD, PD.rExtD, PD.tMethA, PD.rSetD, PD.rReprD, PD.eqk_int, PD.eqd_int, PD.eqk_str, PD.eqd_str, PD.eqk_lst0, PD.eqd_lst0, PD.eqk_tup0, PD.eqd_tup0, PD.tdOf, PD.rInW, PD.rIxW, PD.rSetW, PD.gSubW, PD.rLenW, PD.rGetW, PD.rGetAt, PD.tMethW, PD.rSetdW, PD.tDispR, PD.tPairsD, PD.putAll, PD.tDisp1T, PD.gSeqD, PD.rListW, PD.tLenSetD, ↓PM.asSeq_sq, ↓PM.asDic_sq, ↓PM.srcD_sq, ↓PM.tdOf_sq, ↓PM.rIxD_sq, Option.map_some, Option.bind_some, PD.spFn, PD.spDraw, reduceIte, true_and, and_true, or_false, false_or, Bool.not_true, Bool.not_false, Bool.false_eq_true, List.length_cons, List.length_nil, List.set_cons_zero, List.set_cons_succ, PD.HD.set_same, PD.HD.tick_hp, PD.HD.tick_c, PD.HD.tick_dk, PD.HD.set_c, PD.HD.set_dk])
local macro_rules | `(tactic| simp_all only [$xs,*]) => `(tactic| simp only [PD.pad, PD.gt_z, PD.gt_s, PD.st_z, PD.st_s, PD.sNextD, PD.sSeqD, PD.sBreakD, PD.sContD, PD.sDropD, PD.sRetD, PD.sRetND, PD.sIfD, PD.sNeverD, PD.sAsgD, PD.sPar2, PD.sPar3, PD.gNameD, PD.gNilD, PD.gConsD, PD.gTupD, PD.gSubD, PD.tNilD, PD.tConsD, PD.tTupD, PD.tLstV, PD.tLstR, PD.tBin, PD.tTst, PD.tAndD, PD.tOrD, PD.tNotD, PD.tIfD, PD.tAndV, PD.tOrV, PD.tNotV, PD.tUnD, PD.rNeg, PD.tCallD, PD.tSlot, PD.tCD, PD.tChainD, PD.rIsN, PD.rNotN, PD.rIsiD, PD.isi_non, PD.isi_bl, PD.isi_int, PD.isi_str, PD.isi_tup, PD.isi_lst, PD.isi_dic, PD.Ty.name, PD.rCmpI, PD.fLt, PD.fLe, PD.fGt, PD.fGe, PD.rAddD, PD.rSubD, PD.rFdivD, PD.rModD, PD.rPowD, PD.rMulD, PD.rAddR, PD.rMulR, PD.asSeq, PD.asLst, PD.rLenD, PD.rTupleD, PD.rListV, PD.rListR, PD.rIntD, PD.rBoolD, PD.rAbsD, PD.rIxD, PD.oNone, PD.oSome, PD.tSlD, PD.rSlD, PD.tRevTD, PD.rEqD, PD.rNeD, PD.nrm_non, PD.nrm_bl, PD.nrm_int, PD.nrm_str, PD.nrm_tup, PD.nrm_lst, PD.nrm_dic, PD.nrm_ref, PD.iSeqD, PD.iRng1D, PD.iRng2D, PD.sForD, PD.tLcV, PD.tLcR, PD.tYesD, PD.wipeD, PD.tMethL, PD.rAppD, PD.isRefL, PD.tDicV, PD.keyOf, PD.asDic, PD.srcD, PD.iAnyD, PD.iZipD, PD.iEnumD, PD.tDcV, PD.tDicR, PD.gSubX, PD.rSetX, PD.rIxX, PD.rInD, PD.rInX, PD.rInY, PD.rSumD, PD.tRevLD, PD.tRevX, PD.rSixD, PD.rJoinD, PD.tMethS, PD.rLixD, PD.rPopD, PD.rExtD, PD.tMethA, PD.rSetD, PD.rReprD, PD.eqk_int, PD.eqd_int, PD.eqk_str, PD.eqd_str, PD.eqk_lst0, PD.eqd_lst0, PD.eqk_tup0, PD.eqd_tup0, PD.tdOf, PD.rInW, PD.rIxW, PD.rSetW, PD.gSubW, PD.rLenW, PD.rGetW, PD.rGetAt, PD.tMethW, PD.rSetdW, PD.tDispR, PD.tPairsD, PD.putAll, PD.tDisp1T, PD.gSeqD, PD.rListW, PD.tLenSetD, ↓PM.asSeq_sq, ↓PM.asDic_sq, ↓PM.srcD_sq, ↓PM.tdOf_sq, ↓PM.rIxD_sq, Option.map_some, Option.bind_some, PD.spFn, PD.spDraw, reduceIte, true_and, and_true, or_false, false_or, Bool.not_true, Bool.not_false, Bool.false_eq_true, List.length_cons, List.length_nil, List.set_cons_zero, List.set_cons_succ, PD.HD.set_same, PD.HD.tick_hp, PD.HD.tick_c, PD.HD.tick_dk, PD.HD.set_c, PD.HD.set_dk, $xs,*])
/-! PN12: apart. -/
namespace PM
open PySem PySem.Spec PyProof.Rows PD
def spApart : SpD := fun ds S Q => ∃ (M1 M2 : Mch), ds = [enc M1, enc M2] ∧ M1.Ok ∧ M2.Ok ∧ M1.L = M2.L ∧ (M1.rows.length + 1) * (M2.rows.length + 1) ≤ 10000 ∧
  ∀ r : Option (List Nat), ApartOk M1 M2 r → (∀ w, r = some w → w.length ≤ 10000) → Q (match r with | none => .non | some w => .str (wstr w)) S
theorem apart_len (ds : List D) (S : HD) (Q : QD) (h : spApart ds S Q) : ds.length = 2 := by
  obtain ⟨_, _, rfl, _⟩ := h
  rfl
theorem bl_ne (a b : Bool) : eqk (.bl a) (.bl b) = true ∧ (!eqd (.bl a) (.bl b)) = decide (a ≠ b) := by cases a <;> cases b <;> decide
/-- pairs, each with True -/
def ptD : List Pr → List (D × D)
  | [] => []
  | r :: rs => (prD r, .bl true) :: ptD rs
theorem ptD_len : ∀ rs : List Pr, (ptD rs).length = rs.length
  | [] => rfl
  | r :: rs => by simp [ptD, ptD_len rs]
theorem ptD_snoc (s : Pr) : ∀ rs : List Pr, ptD (rs ++ [s]) = ptD rs ++ [(prD s, .bl true)]
  | [] => rfl
  | r :: rs => by
    show (prD r, D.bl true) :: ptD (rs ++ [s]) = _
    rw [ptD_snoc s rs]
    rfl
theorem hasT_pt (p : Pr) : ∀ rs : List Pr, hasT (ptD rs) (prK p) = decide (p ∈ rs)
  | [] => rfl
  | r :: rs => by
    have hk := keyT_nk (prD_key r)
    have ih := hasT_pt p rs
    unfold hasT at ih ⊢
    by_cases e : r = p
    · subst e
      simp [ptD, getT, hk]
    · have e1 : getT (ptD (r :: rs)) (prK p) = getT (ptD rs) (prK p) := by
        simp only [ptD, getT, hk]
        exact if_neg fun q => e (prK_inj (Option.some.inj q))
      rw [e1, ih]
      simp [Ne.symm e]
def enD (e : En) : D := .tup [wD e.1, encC e.2.1, encC e.2.2]
theorem apart_ok (w : World) (ds : List D) (S : HD) (Q : QD) (h : spApart ds S Q) : rd_apart w spEndsAt spNextOf (ends Q) (pad 11 ds) S := by
  obtain ⟨M1, M2, rfl, o1, o2, hL, hb, q⟩ := h
  have l1 := o1.l1
  have l3 := o1.l3
  have hsl : (sizeLine : Nat) = 16777216 := rfl
  unfold rd_apart
  refine seq_step fun N1 hN1 => ?_
  have k00 : keyT (.tup [.int 0, .int 0]) = some (prK (some 0, some 0)) := rfl
  simp_all only [k00]
  refine ⟨by decide, prK_dep _, fun p1 hp1 => ⟨by decide, by decide, fun p2 hp2 => hN1 _ _ ?_⟩⟩
  clear hN1 N1
  have n21 : p2 ≠ p1 := fun e => by rw [e, HD.set_same] at hp2; cases hp2
  have z2 : S.hp p2 = none := by rw [HD.set_ne n21] at hp2; exact hp2
  refine seq_step fun N1 hN1 => ?_
  let I : Nat → SD → HD → Prop := fun m σ S' => ∃ (ws : List En) (a : Nat) (v5 v6 v7 v8 v9 v10 : Option D), σ = [some (enc M1), some (enc M2), some (.ref p1), some (.ref p2), some (natD a), v5, v6, v7, v8, v9, v10] ∧
    S'.hp p1 = some (.dct w (ptD (ws.map (·.2)))) ∧ S'.hp p2 = some (.lst (ws.map enD)) ∧ Up 0 S S' ∧ ApI M1 M2 ws a 0 ∧ a ≤ ws.length ∧ m = 10000 - a
  refine while_go I (n := _) (fun m σ S' N ⟨ws, a, v5, v6, v7, v8, v9, v10, e0, e1, e2, u, J, hal, em⟩ k => ?_) ⟨[([], (some 0, some 0))], 0, _, _, _, _, _, _, rfl, ?_, ?_, ((Up.refl S).new hp1).set z2, api_0 o1 o2, Nat.zero_le _, rfl⟩
  · rw [HD.set_ne (Ne.symm n21), HD.set_same]; rfl
  · rw [HD.set_same]
    have : wD [] = .str "" := congrArg D.str (by decide +kernel : wstr [] = "")
    simp only [List.map_cons, List.map_nil, enD, this]
    rfl
  subst e0
  have hcount := pairs_le J.nd fun p hp => by obtain ⟨e, he, rfl⟩ := List.mem_map.mp hp; exact (J.ok e he).2.2
  rw [List.length_map] at hcount
  by_cases hlt : a < ws.length
  case neg =>
    have hl : decide (((a : Nat) : Int) < ((ws.length : Nat) : Int)) = false := decide_eq_false (by omega)
    generalize hB : (sSeqD (sAsgD (tBin (rIxW w) (tSlot 3) _) _) _ : TSD) = T1
    simp_all only [e2, List.length_map, hl]
    clear hB T1
    refine hN1 _ _ ?_
    walk_at "rdx"
    exact u.fin (q none (J.none' o1 o2 hL (by omega)) fun w h => by cases h)
  have hl : decide (((a : Nat) : Int) < ((ws.length : Nat) : Int)) = true := decide_eq_true (by omega)
  generalize hB : (sSeqD (sAsgD (tBin (rIxW w) (tSlot 3) _) _) _ : TSD) = T1
  simp_all only [e2, List.length_map, hl]
  subst hB
  have he : ws[a]? = some ws[a] := by simp [hlt]
  generalize ws[a] = e at he
  obtain ⟨w0, pr⟩ := e
  have hem := List.mem_of_getElem? he
  obtain ⟨ok1, ok2, in1, in2, inn⟩ := J.ok _ hem
  have hwl := (J.par a _ he).1
  simp only at ok1 ok2 in1 in2 inn hwl
  have a1 : L2.atI (ws.map enD) ((a : Nat) : Int) = some (.tup [wD w0, encC pr.1, encC pr.2]) := atI_map he
  -- word, state, second
  refine seq_step fun N2 hN2 => ?_
  simp_all only [e2, a1]
  refine hN2 _ _ ?_
  clear hN2 N2
  -- if the ends differ
  refine seq_step fun N2 hN2 => ?_
  walk_at "rdx"
  refine ⟨M1, pr.1, rfl, o1, in1, M2, pr.2, rfl, o2, in2, ?_⟩
  obtain ⟨b1, b2⟩ := bl_ne (M1.finO pr.1) (M2.finO pr.2)
  simp_all only [b1, b2]
  by_cases hne : M1.finO pr.1 = M2.finO pr.2
  case neg =>
    have hd : decide (M1.finO pr.1 ≠ M2.finO pr.2) = true := decide_eq_true hne
    simp_all only [hd]
    exact u.fin (q (some w0) (J.found o1 o2 hL he hne) fun v h => by cases h; omega)
  have hd : decide (M1.finO pr.1 ≠ M2.finO pr.2) = false := decide_eq_false fun z => z hne
  simp_all only [hd]
  refine hN2 _ _ ?_
  clear hN2 N2
  -- for letter in the letters
  refine seq_step fun N2 hN2 => ?_
  generalize hB : (sSeqD (sAsgD (tMethS _ _ _) _) _ : TSD) = T1
  have ecut := cut_abc l3
  unfold enc
  simp_all only [at3_0, ecut, signsD_w]
  subst hB
  refine ⟨by rw [abc_len]; decide, loopD_go (fun i σ S3 => ∃ (ws2 : List En) (v8 v9 v10 : Option D), σ = [some (enc M1), some (enc M2), some (.ref p1), some (.ref p2), some (natD a), some (wD w0), some (encC pr.1), some (encC pr.2), v8, v9, v10] ∧
      S3.hp p1 = some (.dct w (ptD (ws2.map (·.2)))) ∧ S3.hp p2 = some (.lst (ws2.map enD)) ∧ Up 0 S S3 ∧ ApI M1 M2 ws2 a i ∧ ws2[a]? = some (w0, pr))
    ⟨ws, _, _, _, rfl, e1, e2, u, J, he⟩ (fun i d σ S3 N3 hi ⟨ws2, v8, v9, v10, j0, j1, j2, j3, j4, j5⟩ k3 => ⟨trivial, ?_⟩) fun σ S3 ⟨ws2, v8, v9, v10, j0, j1, j2, j3, j4, j5⟩ => ⟨trivial, hN2 _ _ ?_⟩⟩
  · subst j0
    rw [List.getElem?_map] at hi
    obtain ⟨c, hc, rfl⟩ := Option.map_eq_some_iff.mp hi
    have hil : i < M1.L := by have := (List.getElem?_eq_some_iff.mp hc).1; simpa using this
    have : c = i := by rw [List.getElem?_range hil] at hc; exact (Option.some.inj hc).symm
    subst this
    have ix := ix_abc (c := c) (by omega)
    refine seq_step fun N4 hN4 => ?_
    simp_all only [ix]
    refine ⟨⟨_, rfl⟩, hN4 _ _ ?_⟩
    clear hN4 N4
    refine seq_step fun N4 hN4 => ?_
    walk_at "rdx"
    refine ⟨M1, pr.1, c, rfl, o1, hil, in1, M2, pr.2, c, rfl, o2, hL ▸ hil, in2, by decide, hN4 _ _ ?_⟩
    clear hN4 N4
    have nn := ne_none (stepP M1 M2 pr c)
    have kk := prD_key (stepP M1 M2 pr c)
    have kd := prK_dep (stepP M1 M2 pr c)
    have emk : D.tup [encC (M1.nxo pr.1 c), encC (M2.nxo pr.2 c)] = prD (stepP M1 M2 pr c) := rfl
    rw [emk]
    have eq2 : prD (stepP M1 M2 pr c) = .tup [encC (stepP M1 M2 pr c).1, encC (stepP M1 M2 pr c).2] := rfl
    have mem_ : ∀ p : Pr, p ∈ ws2.map (·.2) → ∃ e2 ∈ ws2, e2.2 = p := fun p hp => by
      obtain ⟨e, h1, h2⟩ := List.mem_map.mp hp
      exact ⟨e, h1, h2⟩
    have jn := fun hk hn => ApI.new (c := c) o1 o2 j4 j5 hil hn hk
    have jo := fun h => ApI.old (c := c) j4 j5 h
    generalize hqq : stepP M1 M2 pr c = qq at nn kk kd eq2 jn jo
    simp only [hqq] at jn jo
    have nnr : nrm S3 (prD qq) = prD qq := rfl
    have hht := hasT_pt qq (ws2.map (·.2))
    by_cases hnn : qq = (none, none)
    · have hd : decide (qq = (none, none)) = true := decide_eq_true hnn
      simp_all only [nnr, nn.1, nn.2, hd]
      exact k3 _ _ ⟨ws2, _, _, _, rfl, j1, j2, j3, jo (.inl hnn), j5⟩
    · have hd : decide (qq = (none, none)) = false := decide_eq_false hnn
      by_cases hk : qq ∈ ws2.map (·.2)
      · have hkd : decide (qq ∈ ws2.map (·.2)) = true := decide_eq_true hk
        simp_all only [nnr, nn.1, nn.2, hd, j1, kk, hht, hkd]
        exact ⟨kd, k3 _ _ ⟨ws2, _, _, _, rfl, j1, j2, j3, jo (.inr (mem_ _ hk)), j5⟩⟩
      · have hkd : decide (qq ∈ ws2.map (·.2)) = false := decide_eq_false hk
        have hput : putT (ptD (ws2.map (·.2))) (prD qq) (prK qq) (.bl true) = ptD (ws2.map (·.2) ++ [qq]) := by
          unfold putT
          rw [hht, hkd, ptD_snoc]
          rfl
        have jnn := jn hk hnn
        have c2 := pairs_le jnn.nd fun p hp => by obtain ⟨e, he, rfl⟩ := List.mem_map.mp hp; exact (jnn.ok e he).2.2
        simp only [List.length_map, List.length_append, List.length_singleton] at c2
        have w2 : (S3.set p1 (.dct w (ptD (ws2.map (·.2) ++ [qq])))).hp p2 = some (.lst (ws2.map enD)) := by rw [HD.set_ne n21]; exact j2
        have eww : wstr w0 ++ sgn c = wstr (w0 ++ [c]) := wstr_app w0 c
        have elen : (wstr w0).length = w0.length := wstr_len w0
        have esl : (sgn c).length = 1 := rfl
        unfold wD
        simp_all only [nnr, nn.1, nn.2, hd, j1, kk, hht, hkd, hput, w2, ptD_len, List.length_map]
        simp only [eq2]
        simp_all only [eww, w2, List.length_map]
        refine ⟨kd, kd, by omega, ⟨_, rfl⟩, by omega, by decide, by decide, by omega, k3 _ _ ⟨ws2 ++ [(w0 ++ [c], qq)], _, _, _, rfl, ?_, ?_, (j3.set hp1).set z2, jnn, ?_⟩⟩
        · rw [HD.set_ne (Ne.symm n21), HD.set_same, List.map_append]; rfl
        · rw [HD.set_same, List.map_append]; rfl
        · rw [List.getElem?_append_left (List.getElem?_eq_some_iff.mp j5).1]; exact j5
  · subst j0
    rw [List.length_map, List.length_range] at j4
    clear hN2 N2
    walk_at "rdx"
    have ha2 := (List.getElem?_eq_some_iff.mp j5).1
    refine k (10000 - (a + 1)) _ _ (by rw [em]; omega) ⟨ws2, a + 1, _, _, _, _, _, _, rfl, j1, j2, j3, j4.next fun i e hi hei => ?_, by omega, rfl⟩
    by_cases hia : i < a
    · exact j4.eq i e hia hei
    · have : i = a := by omega
      subst this
      rw [j5] at hei
      cases hei
      exact hne
end PM
end

section
local macro_rules | `(tactic| walk_at "rdx") => `(tactic| simp only [PD.pad, PD.gt_z, PD.gt_s, PD.st_z, PD.st_s, PD.sNextD, PD.sSeqD, PD.sBreakD, PD.sContD, PD.sDropD, PD.sRetD, PD.sRetND, PD.sIfD, PD.sNeverD, PD.sAsgD, PD.sPar2, PD.sPar3, PD.gNameD, PD.gNilD, PD.gConsD, PD.gTupD, PD.gSubD, PD.tNilD, PD.tConsD, PD.tTupD, PD.tLstV, PD.tLstR, PD.tBin, PD.tTst, PD.tAndD, PD.tOrD, PD.tNotD, PD.tIfD, PD.tAndV, PD.tOrV, PD.tNotV, PD.tUnD, PD.rNeg, PD.tCallD, PD.tSlot, PD.tCD, PD.tChainD, PD.rIsN, PD.rNotN, PD.rIsiD, PD.isi_non, PD.isi_bl, PD.isi_int, PD.isi_str, PD.isi_tup, PD.isi_lst, PD.isi_dic, PD.Ty.name, PD.rCmpI, PD.fLt, PD.fLe, PD.fGt, PD.fGe, PD.rAddD, PD.rSubD, PD.rFdivD, PD.rModD, PD.rPowD, PD.rMulD, PD.rAddR, PD.rMulR, PD.asSeq, PD.asLst, PD.rLenD, PD.rTupleD, PD.rListV, PD.rListR, PD.rIntD, PD.rBoolD, PD.rAbsD, PD.rIxD, PD.oNone, PD.oSome, PD.tSlD, PD.rSlD, PD.tRevTD, PD.rEqD, PD.rNeD, PD.nrm_non, PD.nrm_bl, PD.nrm_int, PD.nrm_str, PD.nrm_tup, PD.nrm_lst, PD.nrm_dic, PD.nrm_ref, PD.iSeqD, PD.iRng1D, PD.iRng2D, PD.sForD, PD.tLcV, PD.tLcR, PD.tYesD, PD.wipeD, PD.tMethL, PD.rAppD, PD.isRefL, PD.tDicV, PD.keyOf, PD.asDic, PD.srcD, PD.iAnyD, PD.iZipD, PD.iEnumD, PD.tDcV, PD.tDicR, PD.gSubX, PD.rSetX, PD.rIxX, PD.rInD, PD.rInX, PD.rInY, PD.rSumD, PD.tRevLD, PD.tRevX, PD.rSixD, PD.rJoinD, PD.tMethS, PD.rLixD, PD.rPopD, PD.rExtD, PD.tMethA, PD.rSetD, PD.rReprD, PD.eqk_int, PD.eqd_int, PD.eqk_str, PD.eqd_str, PD.eqk_lst0, PD.eqd_lst0, PD.eqk_tup0, PD.eqd_tup0, PD.tdOf, PD.rInW, PD.rIxW, PD.rSetW, PD.gSubW, PD.rLenW, PD.rGetW, PD.rGetAt, PD.tMethW, PD.rSetdW, PD.tDispR, PD.tPairsD, PD.putAll, PD.tDisp1T, PD.gSeqD, PD.rListW, PD.tLenSetD, ↓PM.asSeq_sq, ↓PM.asDic_sq, ↓PM.srcD_sq, ↓PM.tdOf_sq, ↓PM.rIxD_sq, Option.map_some, Option.bind_some, PD.spFn, PD.spDraw, reduceIte, true_and, and_true, or_false, false_or, Bool.not_true, Bool.not_false, Bool.false_eq_true, List.length_cons, List.length_nil, List.set_cons_zero, List.set_cons_succ, PD.HD.set_same, PD.HD.tick_hp, PD.HD.tick_c, PD.HD.tick_dk, PD.HD.set_c, PD.HD.set_dk])
local macro_rules | `(tactic| simp_all only [$xs,*]) => `(tactic| simp only [PD.pad, PD.gt_z, PD.gt_s, PD.st_z, PD.st_s, PD.sNextD, PD.sSeqD, PD.sBreakD, PD.sContD, PD.sDropD, PD.sRetD, PD.sRetND, PD.sIfD, PD.sNeverD, PD.sAsgD, PD.sPar2, PD.sPar3, PD.gNameD, PD.gNilD, PD.gConsD, PD.gTupD, PD.gSubD, PD.tNilD, PD.tConsD, PD.tTupD, PD.tLstV, PD.tLstR, PD.tBin, PD.tTst, PD.tAndD, PD.tOrD, PD.tNotD, PD.tIfD, PD.tAndV, PD.tOrV, PD.tNotV, PD.tUnD, PD.rNeg, PD.tCallD, PD.tSlot, PD.tCD, PD.tChainD, PD.rIsN, PD.rNotN, PD.rIsiD, PD.isi_non, PD.isi_bl, PD.isi_int, PD.isi_str, PD.isi_tup, PD.isi_lst, PD.isi_dic, PD.Ty.name, PD.rCmpI, PD.fLt, PD.fLe, PD.fGt, PD.fGe, PD.rAddD, PD.rSubD, PD.rFdivD, PD.rModD, PD.rPowD, PD.rMulD, PD.rAddR, PD.rMulR, PD.asSeq, PD.asLst, PD.rLenD, PD.rTupleD, PD.rListV, PD.rListR, PD.rIntD, PD.rBoolD, PD.rAbsD, PD.rIxD, PD.oNone, PD.oSome, PD.tSlD, PD.rSlD, PD.tRevTD, PD.rEqD, PD.rNeD, PD.nrm_non, PD.nrm_bl, PD.nrm_int, PD.nrm_str, PD.nrm_tup, PD.nrm_lst, PD.nrm_dic, PD.nrm_ref, PD.iSeqD, PD.iRng1D, PD.iRng2D, PD.sForD, PD.tLcV, PD.tLcR, PD.tYesD, PD.wipeD, PD.tMethL, PD.rAppD, PD.isRefL, PD.tDicV, PD.keyOf, PD.asDic, PD.srcD, PD.iAnyD, PD.iZipD, PD.iEnumD, PD.tDcV, PD.tDicR, PD.gSubX, PD.rSetX, PD.rIxX, PD.rInD, PD.rInX, PD.rInY, PD.rSumD, PD.tRevLD, PD.tRevX, PD.rSixD, PD.rJoinD, PD.tMethS, PD.rLixD, PD.rPopD, PD.rExtD, PD.tMethA, PD.rSetD, PD.rReprD, PD.eqk_int, PD.eqd_int, PD.eqk_str, PD.eqd_str, PD.eqk_lst0, PD.eqd_lst0, PD.eqk_tup0, PD.eqd_tup0, PD.tdOf, PD.rInW, PD.rIxW, PD.rSetW, PD.gSubW, PD.rLenW, PD.rGetW, PD.rGetAt, PD.tMethW, PD.rSetdW, PD.tDispR, PD.tPairsD, PD.putAll, PD.tDisp1T, PD.gSeqD, PD.rListW, PD.tLenSetD, ↓PM.asSeq_sq, ↓PM.asDic_sq, ↓PM.srcD_sq, ↓PM.tdOf_sq, ↓PM.rIxD_sq, Option.map_some, Option.bind_some, PD.spFn, PD.spDraw, reduceIte, true_and, and_true, or_false, false_or, Bool.not_true, Bool.not_false, Bool.false_eq_true, List.length_cons, List.length_nil, List.set_cons_zero, List.set_cons_succ, PD.HD.set_same, PD.HD.tick_hp, PD.HD.tick_c, PD.HD.tick_dk, PD.HD.set_c, PD.HD.set_dk, $xs,*])
/-! PN13: what is put together of three machines. -/
namespace PM
open PySem PySem.Spec PyProof.Rows PD
structure Tri where
  m1 : Mch
  m2 : Mch
  m3 : Mch
  o1 : m1.Ok
  o2 : m2.Ok
  o3 : m3.Ok
  l2 : m2.L = m1.L
  l3 : m3.L = m1.L
  n1 : m1.rows.length ≤ 6
  n2 : m2.rows.length ≤ 6
  n3 : m3.rows.length ≤ 6
abbrev F3 := Bool → Bool → Bool → Bool
def Tri.ev (T : Tri) (F : F3) (w : List Nat) : Bool := F (T.m1.acc w) (T.m2.acc w) (T.m3.acc w)
abbrev Key3 := (Option Nat × Option Nat × Option Nat) × Bool
def Tri.key (T : Tri) (w : List Nat) : Key3 := ((T.m1.run (some 0) w, T.m2.run (some 0) w, T.m3.run (some 0) w), w.isEmpty)
structure Arg (T : Tri) (X : Mch) (F : F3) : Prop where
  ok : X.Ok
  L : X.L = T.m1.L
  acc : ∀ w, WordOk T.m1 w → X.acc w = T.ev F w
  det : ∀ w w', WordOk T.m1 w → WordOk T.m1 w' → T.key w = T.key w' → X.run (some 0) w = X.run (some 0) w'
theorem arg1 (T : Tri) : Arg T T.m1 (fun a _ _ => a) := ⟨T.o1, rfl, fun _ _ => rfl, fun w w' _ _ h => congrArg (fun k : Key3 => k.1.1) h⟩
theorem arg2 (T : Tri) : Arg T T.m2 (fun _ b _ => b) := ⟨T.o2, T.l2, fun _ _ => rfl, fun w w' _ _ h => congrArg (fun k : Key3 => k.1.2.1) h⟩
theorem arg3 (T : Tri) : Arg T T.m3 (fun _ _ c => c) := ⟨T.o3, T.l3, fun _ _ => rfl, fun w w' _ _ h => congrArg (fun k : Key3 => k.1.2.2) h⟩
def every (L : Nat) : Mch := ⟨L, [List.replicate L (some 0)], [true]⟩
theorem every_ok {L : Nat} (h1 : 1 ≤ L) (h3 : L ≤ 3) : (every L).Ok := ⟨h1, h3, Nat.le_refl _, by show 1 ≤ 400; decide, rfl, fun r hr => by
    have hr' : r ∈ [List.replicate L (some 0 : Option Nat)] := hr
    rw [List.mem_singleton.mp hr']; exact List.length_replicate, fun r hr c hc t ht => by
    have hr' : r ∈ [List.replicate L (some 0 : Option Nat)] := hr
    rw [List.mem_singleton.mp hr'] at hc
    rw [List.eq_of_mem_replicate hc] at ht
    cases ht
    show 0 < 1
    decide⟩
theorem every_run {L : Nat} : ∀ w : List Nat, (∀ c ∈ w, c < L) → (every L).run (some 0) w = some 0
  | [], _ => rfl
  | c :: w, h => by
    have hc := h c List.mem_cons_self
    have e : (every L).nxo (some 0) c = some 0 := by
      show (((every L).rows[0]?).bind (·[c]?)).bind id = some 0
      show ((some (List.replicate L (some 0 : Option Nat))).bind (·[c]?)).bind id = some 0
      simp [List.getElem?_replicate, hc]
    show (every L).run ((every L).nxo (some 0) c) w = some 0
    rw [e]
    exact every_run w fun x hx => h x (List.mem_cons_of_mem _ hx)
theorem argE (T : Tri) : Arg T (every T.m1.L) (fun _ _ _ => true) := ⟨every_ok T.o1.l1 T.o1.l3, rfl, fun w hw => by
  rw [acc_run, every_run w hw]; rfl, fun w w' hw hw' _ => by rw [every_run w hw, every_run w' hw']⟩
theorem accO_app (M : Mch) (s : Option Nat) : ∀ w v : List Nat, accO M s (w ++ v) = accO M (M.run s w) v := by
  intro w
  induction w generalizing s with
  | nil => intro v; rfl
  | cons c w ih => intro v; rw [List.cons_append, accO_cons, ih]; rfl
theorem acc_app (M : Mch) (w v : List Nat) : M.acc (w ++ v) = accO M (M.run (some 0) w) v := by
  rw [← accO_app]
  rfl
theorem wordOk_app {M : Mch} {w v : List Nat} (h1 : WordOk M w) (h2 : WordOk M v) : WordOk M (w ++ v) := fun c hc => (List.mem_append.mp hc).elim (h1 c) (h2 c)
theorem ev_app (T : Tri) (F : F3) {w w' : List Nat} (h : T.key w = T.key w') (v : List Nat) : T.ev F (w ++ v) = T.ev F (w' ++ v) := by
  have e1 := congrArg (fun k : Key3 => k.1.1) h
  have e2 := congrArg (fun k : Key3 => k.1.2.1) h
  have e3 := congrArg (fun k : Key3 => k.1.2.2) h
  simp only [Tri.key] at e1 e2 e3
  unfold Tri.ev
  rw [acc_app, acc_app, acc_app, acc_app, acc_app, acc_app, e1, e2, e3]
theorem wok_L {M N : Mch} (h : M.L = N.L) {w : List Nat} (hw : WordOk M w) : WordOk N w := fun c hc => h ▸ hw c hc
theorem arg_small {T : Tri} {X : Mch} {F : F3} (ok : X.Ok) (sm : Smallest X) (hL : X.L = T.m1.L) (acc : ∀ w, WordOk T.m1 w → X.acc w = T.ev F w) : Arg T X F := by
  refine ⟨ok, hL, acc, ?_⟩
  rcases sm with R | ⟨e, _⟩
  · have half : ∀ w w', WordOk T.m1 w → WordOk T.m1 w' → T.key w = T.key w' → ∀ s, X.run (some 0) w = some s → X.run (some 0) w' = some s := by
      intro w w' hw hw' hk s hs
      have hsl := run_lt ok w (some 0) s (fun t e => by cases e; exact ok.n1) hs
      have res : ∀ v, accO X (X.run (some 0) w) v = accO X (X.run (some 0) w') v := fun v => by
        rw [← acc_app, ← acc_app]
        by_cases hv : WordOk T.m1 v
        · rw [acc _ (wordOk_app hw hv), acc _ (wordOk_app hw' hv), ev_app T F hk]
        · have no : ∀ u, X.acc (u ++ v) = false := fun u => by
            cases h : X.acc (u ++ v) with
            | false => rfl
            | true =>
              have := acc_ok ok (s := 0) h
              exact (hv (wok_L hL fun c hc => this c (List.mem_append_right _ hc))).elim
          rw [no, no]
      obtain ⟨v, hv⟩ := R.live s hsl
      have h1 : accO X (X.run (some 0) w') v = true := by rw [← res, hs]; exact hv
      cases hr : X.run (some 0) w' with
      | none => rw [hr] at h1; cases h1
      | some s' =>
        have hsl' := run_lt ok w' (some 0) s' (fun t e => by cases e; exact ok.n1) hr
        rw [R.dis s' s hsl' hsl fun v => by have := res v; rw [hs, hr] at this; exact this.symm]
    intro w w' hw hw' hk
    cases h1 : X.run (some 0) w with
    | some s => exact (half w w' hw hw' hk s h1).symm
    | none =>
      cases h2 : X.run (some 0) w' with
      | none => rfl
      | some s => rw [half w' w hw' hw hk.symm s h2] at h1; cases h1
  · have nx : ∀ s c, X.nx s c = none := fun s c => by
      rw [e]
      unfold Mch.nx triv
      cases s with
      | zero =>
        simp only [List.getElem?_cons_zero, Option.bind_some, List.getElem?_replicate]
        split <;> rfl
      | succ s => simp
    intro w w' _ _ hk
    have hke : w.isEmpty = w'.isEmpty := congrArg (fun k : Key3 => k.2) hk
    cases w with
    | nil =>
      cases w' with
      | nil => rfl
      | cons c w' => cases hke
    | cons c w =>
      cases w' with
      | nil => cases hke
      | cons c' w' =>
        show X.run (X.nx 0 c) w = X.run (X.nx 0 c') w'
        rw [nx, nx, run_none, run_none]
theorem arg_few {T : Tri} {X Y : Mch} {F G : F3} (aX : Arg T X F) (aY : Arg T Y G) : Few X Y := by
  classical
  let keys : List Key3 := ((some 0, some 0, some 0), true) :: ((univ T.m1.rows.length T.m2.rows.length).flatMap fun p => (opts T.m3.rows.length).map fun c => ((p.1, p.2, c), false))
  let g : Key3 → Pr := fun k => if h : ∃ w, WordOk T.m1 w ∧ T.key w = k then pairOf X Y h.choose else (none, none)
  refine ⟨keys.map g, ?_, fun w hw _ => ?_⟩
  · rw [List.length_map, List.length_cons, List.length_flatMap]
    have rep : ∀ (l : List Pr), (l.map fun p => ((opts T.m3.rows.length).map fun c => (((p.1, p.2, c), false) : Key3)).length).sum = l.length * (T.m3.rows.length + 1) := by
      intro l
      induction l with
      | nil => simp
      | cons p l ih => rw [List.map_cons, List.sum_cons, ih, List.length_map, opts_len, List.length_cons, Nat.add_mul]; omega
    rw [rep, univ_len]
    have h1 := T.n1
    have h2 := T.n2
    have h3 := T.n3
    have : (T.m1.rows.length + 1) * (T.m2.rows.length + 1) ≤ 7 * 7 := Nat.mul_le_mul (by omega) (by omega)
    have : (T.m1.rows.length + 1) * (T.m2.rows.length + 1) * (T.m3.rows.length + 1) ≤ 7 * 7 * 7 := Nat.mul_le_mul this (by omega)
    omega
  · have hk : T.key w ∈ keys := by
      cases w with
      | nil => exact List.mem_cons_self
      | cons c w =>
        refine List.mem_cons_of_mem _ (List.mem_flatMap.mpr ⟨(T.m1.run (some 0) (c :: w), T.m2.run (some 0) (c :: w)), univ_mem (fun t h => ?_) (fun t h => ?_), List.mem_map.mpr ⟨T.m3.run (some 0) (c :: w), opts_mem fun t h => ?_, rfl⟩⟩)
        · exact run_lt T.o1 _ (some 0) t (fun t e => by cases e; exact T.o1.n1) h
        · exact run_lt T.o2 _ (some 0) t (fun t e => by cases e; exact T.o2.n1) h
        · exact run_lt T.o3 _ (some 0) t (fun t e => by cases e; exact T.o3.n1) h
    have hw' : WordOk T.m1 w := wok_L aX.L hw
    have hex : ∃ w', WordOk T.m1 w' ∧ T.key w' = T.key w := ⟨w, hw', rfl⟩
    refine List.mem_map.mpr ⟨T.key w, hk, ?_⟩
    show (if h : ∃ w', WordOk T.m1 w' ∧ T.key w' = T.key w then pairOf X Y h.choose else (none, none)) = pairOf X Y w
    rw [dif_pos hex]
    obtain ⟨c1, c2⟩ := hex.choose_spec
    exact Prod.ext (aX.det _ _ c1 hw' c2) (aY.det _ _ c1 hw' c2)
theorem arg_acc {T : Tri} {X Y : Mch} {F G : F3} (aX : Arg T X F) (aY : Arg T Y G) (h : ∀ a b c, F a b c = G a b c) (w : List Nat) : X.acc w = Y.acc w := by
  by_cases hw : WordOk T.m1 w
  · rw [aX.acc w hw, aY.acc w hw]; exact h _ _ _
  · have no : ∀ {Z : Mch} {H : F3}, Arg T Z H → Z.acc w = false := fun {Z H} aZ => by
      cases hz : Z.acc w with
      | false => rfl
      | true => exact (hw (wok_L aZ.L (acc_ok aZ.ok (s := 0) hz))).elim
    rw [no aX, no aY]
theorem arg_eq {T : Tri} {X Y : Mch} {F G : F3} (aX : Arg T X F) (aY : Arg T Y G) (sX : Smallest X) (sY : Smallest Y) (h : ∀ a b c, F a b c = G a b c) : X = Y :=
  smallest_eq aX.ok aY.ok sX sY (aX.L.trans aY.L.symm) (arg_acc aX aY h)
theorem arg_none {T : Tri} {X : Mch} {F : F3} (aX : Arg T X F) (h : ∀ a b c, F a b c = false) (w : List Nat) : X.acc w = false := by
  by_cases hw : WordOk T.m1 w
  · rw [aX.acc w hw]; exact h _ _ _
  · cases hz : X.acc w with
    | false => rfl
    | true => exact (hw (wok_L aX.L (acc_ok aX.ok (s := 0) hz))).elim
theorem how_T {h : How} {T : Tri} {X Y : Mch} {F G : F3} (aX : Arg T X F) (aY : Arg T Y G) {Q : QD} {S : HD} (q : ∀ M', Arg T M' (fun a b c => h.op (F a b c) (G a b c)) → Smallest M' → Q (enc M') S) : spHow h [enc X, enc Y] S Q :=
  ⟨X, Y, rfl, aX.ok, aY.ok, aX.L.trans aY.L.symm, arg_few aX aY, fun M' o s l a => q M' (arg_small o s (l.trans aX.L) fun w hw => by rw [a, aX.acc w hw, aY.acc w hw]; rfl) s⟩
theorem small_T {T : Tri} {X : Mch} {F : F3} (aX : Arg T X F) {Q : QD} {S : HD} (q : ∀ M', Arg T M' F → Smallest M' → Q (enc M') S) : spSmall [enc X] S Q :=
  ⟨X, rfl, aX.ok, fun M' o s l a _ => q M' (arg_small o s (l.trans aX.L) fun w hw => by rw [a, aX.acc w hw]) s⟩
theorem size_T {T : Tri} {X : Mch} {F : F3} (aX : Arg T X F) (h : ∀ a b c, F a b c = false) {Q : QD} {S : HD} (q : Q (.int 0) S) : spSize0 [enc X] S Q := ⟨X, rfl, aX.ok, arg_none aX h, q⟩
/-! ### == of machines -/
theorem okEL_map {α : Type} {f : α → D} (h : ∀ x, okE (f x) = true) : ∀ xs : List α, okEL (xs.map f) = true
  | [] => rfl
  | x :: xs => by
    show (okE (f x) && okEL (xs.map f)) = true
    rw [h, okEL_map h xs]
    rfl
theorem depL_map {α : Type} {f : α → D} {n : Nat} (h : ∀ x, dep (f x) ≤ n) : ∀ xs : List α, depL (xs.map f) ≤ n
  | [] => Nat.zero_le _
  | x :: xs => by
    have h1 := h x
    have h2 := depL_map h xs
    simp only [List.map_cons, depL]
    omega
theorem enc_okE (M : Mch) : okE (enc M) = true := by
  have h1 : okEL (M.rows.map encR) = true := okEL_map (f := encR) (fun r => okEL_map (f := encC) encC_ok r) _
  have h2 : okEL (M.ends.map D.bl) = true := okEL_map (fun _ => rfl) _
  show (true && ((okEL (M.rows.map encR)) && (okEL (M.ends.map D.bl) && true))) = true
  rw [h1, h2]
  rfl
theorem enc_dep (M : Mch) : dep (enc M) ≤ 60 := by
  have h1 : depL (M.rows.map encR) ≤ 1 := depL_map (fun r => by
    have := depL_map (fun s => Nat.le_of_eq (encC_dep s)) r
    show dep (.tup (r.map encC)) ≤ 1
    simp only [dep]
    omega) _
  have h2 : depL (M.ends.map D.bl) ≤ 0 := depL_map (fun _ => by simp [dep]) _
  show dep (.tup [.int (M.L : Nat), .tup (M.rows.map encR), .tup (M.ends.map .bl)]) ≤ 60
  simp only [dep, depL]
  omega
theorem nrm_enc (S : HD) (M : Mch) : nrm S (enc M) = enc M := rfl
theorem eqk_enc (A B : Mch) : eqk (enc A) (enc B) = true := eqk_of (enc_okE A) (enc_okE B) (enc_dep A)
theorem eqd_enc (A : Mch) : eqd (enc A) (enc A) = true := eqd_self (enc_okE A)
end PM
end

section
namespace K25
open PySem PySem.Spec PyProof.Rows L2 PD
def top (i : Nat) : Stmt := PySem.Challenge.pw_sortedshelves_k25_whole_machines_as_sets.main.body.getD i (.Pass ⟨0, 0, 0, 0⟩)
structure Txt (K : PySem.W.Frag) (mg : Str → Option Value) : Prop where
  b_enumerate : mg "enumerate" = none
  b_range : mg "range" = none
  b_len : mg "len" = none
  b_tuple : mg "tuple" = none
  b_int : mg "int" = none
  b_sum : mg "sum" = none
  b_list : mg "list" = none
  b_set : mg "set" = none
  b_bool : mg "bool" = none
  b_abs : mg "abs" = none
  b_repr : mg "repr" = none
  c_LETTERS : ∃ t, mg "LETTERS" = some (.str "abc" t)
  c_MAX_ROWS : ∃ t, mg "MAX_ROWS" = some (.int 400 t)
  c_BOTH : ∃ t, mg "BOTH" = some (.str "both" t)
  c_EITHER : ∃ t, mg "EITHER" = some (.str "either" t)
  c_LESS : ∃ t, mg "LESS" = some (.str "less" t)
  t_NOWHERE : TupC K mg "NOWHERE" [.non, .non]
section
variable {P : Program} {w : World} {K : PySem.W.Frag} {mg : Str → Option Value} {base : Heap}
abbrev s_moves_of : Stmt := top 10
abbrev N_moves_of : List Str := ["machine", "state", "row", "at", "behind"]
theorem sc_moves_of : FnScope N_moves_of ["machine", "state"] (defScope s_moves_of) := ⟨rfl, rfl, rfl, by decide +kernel, rfl, by decide +kernel, by decide +kernel⟩
def rd_moves_of : TSD :=
  sSeqD (sAsgD (tBin rIxX (tBin rIxX (tSlot 0) (tCD (.int 1))) (tSlot 1)) (gNameD 2))
  (sRetD (tLcV (iEnumD (tConsD (tSlot 2) (tNilD))) (gTupD 2 (gConsD (gNameD 3) (gConsD (gNameD 4) (gNilD)))) (tTst (tUnD rNotN (tSlot 4))) (tTupD (tConsD (tBin rIxX (tCD (.str "abc")) (tSlot 3)) (tConsD (tSlot 3) (tConsD (tSlot 4) (tNilD))))) [3, 4]))
theorem dv_moves_of (T : Txt K mg) (hB : SysB base) {k : Nat} {f : Addr} {cdv : Value} {A : Around} {outer : List Env} {s : Shared} {H : Hp} (hr : RoomG k (A.deeper (envOfC "moves_of" (defScope s_moves_of) s.heap.objs.size f cdv))) :
    DSs (cxOf CX0 P w K mg base N_moves_of "moves_of" (defScope s_moves_of) f cdv A outer s H E0).nox (defBody s_moves_of) (rd_moves_of) :=
    dss_cons (ds_set 2 sc_moves_of.nd (de_ixX hr (de_ixX hr (de_slot 0 (pv 0)) (de_int)) (de_slot 1 (pv 1))))
    (dss_one (ds_ret (de_lcV (own := [("at", 3), ("behind", 4)]) sc_moves_of.nd (di_enum T.b_enumerate (da_cons (de_slot 2 (pv 2)) (da_nil))) (blkOk_by (own := [("at", 3), ("behind", 4)]) (N := N_moves_of) (sc := defScope s_moves_of) (by decide +kernel)) (fun _ _ _ _ _ => dgw_tup rfl (dgsw_cons (dgw_name 3 (by decide) (pg_name (i := 3) sc_moves_of.nd rfl (Or.inl rfl))) (dgsw_cons (dgw_name 4 (by decide) (pg_name (i := 4) sc_moves_of.nd rfl (Or.inl rfl))) (dgsw_nil)))) (fun _ _ _ _ _ => dts_one (dt_notN (de_slot 4 (pv 4)))) (fun _ _ _ _ _ => de_tup (da_cons (de_ixX hr (de_gS T.c_LETTERS) (de_slot 3 (pv 3))) (da_cons (de_slot 3 (pv 3)) (da_cons (de_slot 4 (pv 4)) (da_nil))))))))
theorem mk_moves_of (D : DefOf K mg "moves_of" s_moves_of) (T : Txt K mg) (hB : SysB base) {k : Nat} {sp : SpD} (len : ∀ ds S Q, sp ds S Q → ds.length = 2) (hq : ∀ ds S Qd, sp ds S Qd → rd_moves_of { nx := fun _ S2 => fin Qd .non S2, rt := fin Qd, bk := fun _ _ => False, ct := fun _ _ => False } (pad 5 ds) S) : Has P w K mg base (k + 1) "moves_of" ["machine", "state"] sp :=
  let ⟨f, fd, F, hm⟩ := D.ex
  .of F hm (F.binds fun _ _ _ _ _ _ us hl => match us, hl with | [_, _], _ => rfl) (FnD.of F sc_moves_of _ len (fun cdv A outer s H hr => dv_moves_of T hB hr) hq)
abbrev s_is_of : Stmt := top 11
abbrev N_is_of : List Str := ["machine", "word", "state", "letter"]
theorem sc_is_of : FnScope N_is_of ["machine", "word"] (defScope s_is_of) := ⟨rfl, rfl, rfl, by decide +kernel, rfl, by decide +kernel, by decide +kernel⟩
def rd_is_of : TSD :=
  sSeqD (sAsgD (tCD (.int 0)) (gNameD 2))
  (sSeqD (sForD (iAnyD (tSlot 1)) (gNameD 3) (sSeqD (sAsgD (tBin rIxX (tBin rIxX (tBin rIxX (tSlot 0) (tCD (.int 1))) (tSlot 2)) (tMethS rSixD (tCD (.str "abc")) (tSlot 3))) (gNameD 2))
  (sIfD (tTst (tUnD rIsN (tSlot 2))) (sRetD (tCD (.bl false))) (sNextD))))
  (sRetD (tBin rIxX (tBin rIxX (tSlot 0) (tCD (.int 2))) (tSlot 2))))
theorem dv_is_of (T : Txt K mg) (hB : SysB base) {k : Nat} {f : Addr} {cdv : Value} {A : Around} {outer : List Env} {s : Shared} {H : Hp} (hr : RoomG k (A.deeper (envOfC "is_of" (defScope s_is_of) s.heap.objs.size f cdv))) :
    DSs (cxOf CX0 P w K mg base N_is_of "is_of" (defScope s_is_of) f cdv A outer s H E0).nox (defBody s_is_of) (rd_is_of) :=
    dss_cons (ds_set 2 sc_is_of.nd (de_int))
    (dss_cons (ds_for PassesOwn.never (di_any (de_slot 1 (pv 1))) (dg_name 3 (pg_name (i := 3) sc_is_of.nd rfl (Or.inl rfl))) (dss_cons (ds_set 2 sc_is_of.nd (de_ixX hr (de_ixX hr (de_ixX hr (de_slot 0 (pv 0)) (de_int)) (de_slot 2 (pv 2))) (de_sindex (de_gS T.c_LETTERS) (de_slot 3 (pv 3)))))
    (dss_one (ds_if (dt_isN (de_slot 2 (pv 2))) (dss_one (ds_ret (de_bl))) (dss_nil)))))
    (dss_one (ds_ret (de_ixX hr (de_ixX hr (de_slot 0 (pv 0)) (de_int)) (de_slot 2 (pv 2))))))
theorem mk_is_of (D : DefOf K mg "is_of" s_is_of) (T : Txt K mg) (hB : SysB base) {k : Nat} {sp : SpD} (len : ∀ ds S Q, sp ds S Q → ds.length = 2) (hq : ∀ ds S Qd, sp ds S Qd → rd_is_of { nx := fun _ S2 => fin Qd .non S2, rt := fin Qd, bk := fun _ _ => False, ct := fun _ _ => False } (pad 4 ds) S) : Has P w K mg base (k + 1) "is_of" ["machine", "word"] sp :=
  let ⟨f, fd, F, hm⟩ := D.ex
  .of F hm (F.binds fun _ _ _ _ _ _ us hl => match us, hl with | [_, _], _ => rfl) (FnD.of F sc_is_of _ len (fun cdv A outer s H hr => dv_is_of T hB hr) hq)
abbrev s_open_layers : Stmt := top 12
abbrev N_open_layers : List Str := ["machine", "length", "layer", "found", "turn", "state", "end", "row", "item"]
theorem sc_open_layers : FnScope N_open_layers ["machine", "length"] (defScope s_open_layers) := ⟨rfl, rfl, rfl, by decide +kernel, rfl, by decide +kernel, by decide +kernel⟩
def rd_open_layers : TSD :=
  sSeqD (sAsgD (tDcV (iEnumD (tConsD (tBin rIxX (tSlot 0) (tCD (.int 2))) (tNilD))) (gTupD 2 (gConsD (gNameD 5) (gConsD (gNameD 6) (gNilD)))) (tTst (tSlot 6)) (tSlot 5) (tCD (.bl true)) [5, 6]) (gNameD 2))
  (sSeqD (sAsgD (tLstR (tConsD (tSlot 2) (tNilD))) (gNameD 3))
  (sSeqD (sForD (iRng1D (tConsD (tSlot 1) (tNilD))) (gNameD 4) (sSeqD (sAsgD (tDcV (iEnumD (tConsD (tBin rIxX (tSlot 0) (tCD (.int 1))) (tNilD))) (gTupD 2 (gConsD (gNameD 5) (gConsD (gNameD 7) (gNilD)))) (tTst (tBin rNeD (tLcV (iAnyD (tSlot 7)) (gNameD 8) (tTst (tBin (rInY false) (tSlot 8) (tSlot 2))) (tCD (.int 1)) [8]) (tLstV (tNilD)))) (tSlot 5) (tCD (.bl true)) [5, 7]) (gNameD 2))
  (sDropD (tMethL rAppD (tSlot 3) (tConsD (tSlot 2) (tNilD))))))
  (sRetD (tSlot 3))))
theorem dv_open_layers (T : Txt K mg) (hB : SysB base) {k : Nat} {f : Addr} {cdv : Value} {A : Around} {outer : List Env} {s : Shared} {H : Hp} (hr : RoomG k (A.deeper (envOfC "open_layers" (defScope s_open_layers) s.heap.objs.size f cdv))) :
    DSs (cxOf CX0 P w K mg base N_open_layers "open_layers" (defScope s_open_layers) f cdv A outer s H E0).nox (defBody s_open_layers) (rd_open_layers) :=
    dss_cons (ds_set 2 sc_open_layers.nd (de_dcV (own := [("state", 5), ("end", 6)]) sc_open_layers.nd (di_enum T.b_enumerate (da_cons (de_ixX hr (de_slot 0 (pv 0)) (de_int)) (da_nil))) (blkOk_by (own := [("state", 5), ("end", 6)]) (N := N_open_layers) (sc := defScope s_open_layers) (by decide +kernel)) (fun _ _ _ _ _ => dgw_tup rfl (dgsw_cons (dgw_name 5 (by decide) (pg_name (i := 5) sc_open_layers.nd rfl (Or.inl rfl))) (dgsw_cons (dgw_name 6 (by decide) (pg_name (i := 6) sc_open_layers.nd rfl (Or.inl rfl))) (dgsw_nil)))) (fun _ _ _ _ _ => dts_one (dt_val (de_slot 6 (pv 6)))) (fun _ _ _ _ _ => de_slot 5 (pv 5)) (fun _ _ _ _ _ => de_bl)))
    (dss_cons (ds_set 3 sc_open_layers.nd (de_lstR (da_cons (de_slot 2 (pv 2)) (da_nil))))
    (dss_cons (ds_for PassesOwn.never (di_range1 T.b_range (da_cons (de_slot 1 (pv 1)) (da_nil))) (dg_name 4 (pg_name (i := 4) sc_open_layers.nd rfl (Or.inl rfl))) (dss_cons (ds_set 2 sc_open_layers.nd (de_dcV (own := [("state", 5), ("row", 7)]) sc_open_layers.nd (di_enum T.b_enumerate (da_cons (de_ixX hr (de_slot 0 (pv 0)) (de_int)) (da_nil))) (blkOk_by (own := [("state", 5), ("row", 7)]) (N := N_open_layers) (sc := defScope s_open_layers) (by decide +kernel)) (fun _ _ _ _ _ => dgw_tup rfl (dgsw_cons (dgw_name 5 (by decide) (pg_name (i := 5) sc_open_layers.nd rfl (Or.inl rfl))) (dgsw_cons (dgw_name 7 (by decide) (pg_name (i := 7) sc_open_layers.nd rfl (Or.inl rfl))) (dgsw_nil)))) (fun _ _ _ _ _ => dts_one (dt_ne hr hB (de_lcV (own := [("item", 8)]) sc_open_layers.nd (di_any (de_slot 7 (pv 7))) (blkOk_by (by rfl)) (fun _ _ _ _ _ => dgw_name 8 (by decide) (pg_name (i := 8) sc_open_layers.nd rfl (Or.inl rfl))) (fun _ _ _ _ _ => dts_one (dt_inY hr (de_slot 8 (pv 8)) (de_slot 2 (pv 2)))) (fun _ _ _ _ _ => de_int)) (de_lstV (da_nil)))) (fun _ _ _ _ _ => de_slot 5 (pv 5)) (fun _ _ _ _ _ => de_bl)))
    (dss_one (ds_expr (de_append (de_slot 3 (pv 3)) (da_cons (de_slot 2 (pv 2)) (da_nil)))))))
    (dss_one (ds_ret (de_slot 3 (pv 3))))))
theorem mk_open_layers (D : DefOf K mg "open_layers" s_open_layers) (T : Txt K mg) (hB : SysB base) {k : Nat} {sp : SpD} (len : ∀ ds S Q, sp ds S Q → ds.length = 2) (hq : ∀ ds S Qd, sp ds S Qd → rd_open_layers { nx := fun _ S2 => fin Qd .non S2, rt := fin Qd, bk := fun _ _ => False, ct := fun _ _ => False } (pad 9 ds) S) : Has P w K mg base (k + 1) "open_layers" ["machine", "length"] sp :=
  let ⟨f, fd, F, hm⟩ := D.ex
  .of F hm (F.binds fun _ _ _ _ _ _ us hl => match us, hl with | [_, _], _ => rfl) (FnD.of F sc_open_layers _ len (fun cdv A outer s H hr => dv_open_layers T hB hr) hq)
abbrev s_told : Stmt := top 13
abbrev N_told : List Str := ["machine", "length", "most", "layers", "found", "waiting", "word", "state", "later", "moves", "letter", "at", "behind"]
theorem sc_told : FnScope N_told ["machine", "length", "most"] (defScope s_told) := ⟨rfl, rfl, rfl, by decide +kernel, rfl, by decide +kernel, by decide +kernel⟩
def rd_told (sp_open_layers : SpD) (sp_moves_of : SpD) : TSD :=
  sSeqD (sPar2 3 4 (tConsD (tCallD sp_open_layers (tConsD (tSlot 0) (tConsD (tSlot 1) (tNilD)))) (tConsD (tLstR (tNilD)) (tNilD))))
  (sSeqD (sAsgD (tIfD (tTst (tBin (rInY false) (tCD (.int 0)) (tBin rIxX (tSlot 3) (tSlot 1)))) (tLstR (tConsD (tTupD (tConsD (tCD (.str "")) (tConsD (tCD (.int 0)) (tNilD)))) (tNilD))) (tLstR (tNilD))) (gNameD 5))
  (sSeqD (sWhileD (tAndD (tTst (tBin rNeD (tSlot 5) (tLstV (tNilD)))) (tTst (tBin (rCmpI fLt) (tCallD rLenD (tConsD (tSlot 4) (tNilD))) (tSlot 2)))) (sSeqD (sAsgD (tMethA rPopD (tSlot 5) tNilD) (gTupD 2 (gConsD (gNameD 6) (gConsD (gNameD 7) (gNilD)))))
  (sIfD (tTst (tBin rEqD (tCallD rLenD (tConsD (tSlot 6) (tNilD))) (tSlot 1))) (sDropD (tMethL rAppD (tSlot 4) (tConsD (tSlot 6) (tNilD)))) (sSeqD (sAsgD (tBin rIxX (tSlot 3) (tBin rSubD (tBin rSubD (tSlot 1) (tCallD rLenD (tConsD (tSlot 6) (tNilD)))) (tCD (.int 1)))) (gNameD 8))
  (sSeqD (sAsgD (tLcV (iAnyD (tCallD sp_moves_of (tConsD (tSlot 0) (tConsD (tSlot 7) (tNilD))))) (gTupD 3 (gConsD (gNameD 10) (gConsD (gNameD 11) (gConsD (gNameD 12) (gNilD))))) (tTst (tBin (rInY false) (tSlot 12) (tSlot 8))) (tTupD (tConsD (tBin rAddD (tSlot 6) (tSlot 10)) (tConsD (tSlot 12) (tNilD)))) [10, 11, 12]) (gNameD 9))
  (sDropD (tMethA rExtD (tSlot 5) (tConsD (tRevX (tSlot 9)) (tNilD)))))))))
  (sRetD (tCallD rTupleD (tConsD (tSlot 4) (tNilD))))))
theorem dv_told (T : Txt K mg) (hB : SysB base) {k : Nat} {f : Addr} {cdv : Value} {A : Around} {outer : List Env} {s : Shared} {H : Hp} (hr : RoomG k (A.deeper (envOfC "told" (defScope s_told) s.heap.objs.size f cdv))) {sp_open_layers : SpD} (h_open_layers : Has P w K mg base k "open_layers" ["machine", "length"] sp_open_layers) {sp_moves_of : SpD} (h_moves_of : Has P w K mg base k "moves_of" ["machine", "state"] sp_moves_of) :
    DSs (cxOf CX0 P w K mg base N_told "told" (defScope s_told) f cdv A outer s H E0).nox (defBody s_told) (rd_told sp_open_layers sp_moves_of) :=
    dss_cons (ds_par 3 4 sc_told.nd (da_cons (de_call h_open_layers hr (da_cons (de_slot 0 (pv 0)) (da_cons (de_slot 1 (pv 1)) (da_nil)))) (da_cons (de_lstR (da_nil)) (da_nil))))
    (dss_cons (ds_set 5 sc_told.nd (de_if (dt_inY hr (de_int) (de_ixX hr (de_slot 3 (pv 3)) (de_slot 1 (pv 1)))) (de_lstR (da_cons (de_tup (da_cons (de_str) (da_cons (de_int) (da_nil)))) (da_nil))) (de_lstR (da_nil))))
    (dss_cons (ds_while PassesOwn.never (dt_w (dw_and (dt_ne hr hB (de_slot 5 (pv 5)) (de_lstV (da_nil))) (dw_and1 (dt_lt (de_callB call_lenRD T.b_len bt_len (da_cons (de_slot 4 (pv 4)) (da_nil))) (de_slot 2 (pv 2)))))) (dss_cons (ds_asg (de_pop (de_slot 5 (pv 5))) (dg_tup rfl (dgs_cons (dg_name 6 (pg_name (i := 6) sc_told.nd rfl (Or.inr rfl))) (dgs_cons (dg_name 7 (pg_name (i := 7) sc_told.nd rfl (Or.inl rfl))) (dgs_nil)))))
    (dss_one (ds_if (dt_eq hr hB (de_callB call_lenRD T.b_len bt_len (da_cons (de_slot 6 (pv 6)) (da_nil))) (de_slot 1 (pv 1))) (dss_one (ds_expr (de_append (de_slot 4 (pv 4)) (da_cons (de_slot 6 (pv 6)) (da_nil))))) (dss_cons (ds_set 8 sc_told.nd (de_ixX hr (de_slot 3 (pv 3)) (de_sub (de_sub (de_slot 1 (pv 1)) (de_callB call_lenRD T.b_len bt_len (da_cons (de_slot 6 (pv 6)) (da_nil)))) (de_int))))
    (dss_cons (ds_setLcV 9 (own := [("letter", 10), ("at", 11), ("behind", 12)]) sc_told.nd (di_any (de_call h_moves_of hr (da_cons (de_slot 0 (pv 0)) (da_cons (de_slot 7 (pv 7)) (da_nil))))) (blkOk_by (own := [("letter", 10), ("at", 11), ("behind", 12)]) (N := N_told) (sc := defScope s_told) (by decide +kernel)) (fun _ _ _ _ _ => dgw_tup rfl (dgsw_cons (dgw_name 10 (by decide) (pg_name (i := 10) sc_told.nd rfl (Or.inl rfl))) (dgsw_cons (dgw_name 11 (by decide) (pg_name (i := 11) sc_told.nd rfl (Or.inl rfl))) (dgsw_cons (dgw_name 12 (by decide) (pg_name (i := 12) sc_told.nd rfl (Or.inl rfl))) (dgsw_nil))))) (fun _ _ _ _ _ => dts_one (dt_inY hr (de_slot 12 (pv 12)) (de_slot 8 (pv 8)))) (fun _ _ _ _ _ => de_tup (da_cons (de_add (de_slot 6 (pv 6)) (de_slot 10 (pv 10))) (da_cons (de_slot 12 (pv 12)) (da_nil)))))
    (dss_one (ds_expr (de_extend (de_slot 5 (pv 5)) (da_cons (de_rev (de_slot 9 (pv 9))) (da_nil)))))))))))
    (dss_one (ds_ret (de_callTy call_tupleRD T.b_tuple bt_tuple (da_cons (de_slot 4 (pv 4)) (da_nil)))))))
theorem mk_told (D : DefOf K mg "told" s_told) (T : Txt K mg) (hB : SysB base) {k : Nat} {sp_open_layers : SpD} (h_open_layers : Has P w K mg base k "open_layers" ["machine", "length"] sp_open_layers) {sp_moves_of : SpD} (h_moves_of : Has P w K mg base k "moves_of" ["machine", "state"] sp_moves_of) {sp : SpD} (len : ∀ ds S Q, sp ds S Q → ds.length = 3) (hq : ∀ ds S Qd, sp ds S Qd → rd_told sp_open_layers sp_moves_of { nx := fun _ S2 => fin Qd .non S2, rt := fin Qd, bk := fun _ _ => False, ct := fun _ _ => False } (pad 13 ds) S) : Has P w K mg base (k + 1) "told" ["machine", "length", "most"] sp :=
  let ⟨f, fd, F, hm⟩ := D.ex
  .of F hm (F.binds fun _ _ _ _ _ _ us hl => match us, hl with | [_, _, _], _ => rfl) (FnD.of F sc_told _ len (fun cdv A outer s H hr => dv_told T hB hr h_open_layers h_moves_of) hq)
abbrev s_counts : Stmt := top 14
abbrev N_counts : List Str := ["machine", "length", "row", "found", "turn", "end", "items", "item"]
theorem sc_counts : FnScope N_counts ["machine", "length"] (defScope s_counts) := ⟨rfl, rfl, rfl, by decide +kernel, rfl, by decide +kernel, by decide +kernel⟩
def rd_counts : TSD :=
  sSeqD (sAsgD (tLcV (iAnyD (tBin rIxX (tSlot 0) (tCD (.int 2)))) (gNameD 5) (tYesD) (tCallD rIntD (tConsD (tSlot 5) (tNilD))) [5]) (gNameD 2))
  (sSeqD (sAsgD (tLstR (tConsD (tBin rIxX (tSlot 2) (tCD (.int 0))) (tNilD))) (gNameD 3))
  (sSeqD (sForD (iRng1D (tConsD (tSlot 1) (tNilD))) (gNameD 4) (sSeqD (sAsgD (tLcV (iAnyD (tBin rIxX (tSlot 0) (tCD (.int 1)))) (gNameD 6) (tYesD) (tCallD rSumD (tConsD (tLcV (iAnyD (tSlot 6)) (gNameD 7) (tTst (tUnD rNotN (tSlot 7))) (tBin rIxX (tSlot 2) (tSlot 7)) [7]) (tNilD))) [6]) (gNameD 2))
  (sDropD (tMethL rAppD (tSlot 3) (tConsD (tBin rIxX (tSlot 2) (tCD (.int 0))) (tNilD))))))
  (sRetD (tSlot 3))))
theorem dv_counts (T : Txt K mg) (hB : SysB base) {k : Nat} {f : Addr} {cdv : Value} {A : Around} {outer : List Env} {s : Shared} {H : Hp} (hr : RoomG k (A.deeper (envOfC "counts" (defScope s_counts) s.heap.objs.size f cdv))) :
    DSs (cxOf CX0 P w K mg base N_counts "counts" (defScope s_counts) f cdv A outer s H E0).nox (defBody s_counts) (rd_counts) :=
    dss_cons (ds_set 2 sc_counts.nd (de_lcV (own := [("end", 5)]) sc_counts.nd (di_any (de_ixX hr (de_slot 0 (pv 0)) (de_int))) (blkOk_by (own := [("end", 5)]) (N := N_counts) (sc := defScope s_counts) (by decide +kernel)) (fun _ _ _ _ _ => dgw_name 5 (by decide) (pg_name (i := 5) sc_counts.nd rfl (Or.inl rfl))) (fun _ _ _ _ _ => dts_nil) (fun _ _ _ _ _ => de_callTy call_intRD T.b_int bt_int (da_cons (de_slot 5 (pv 5)) (da_nil)))))
    (dss_cons (ds_set 3 sc_counts.nd (de_lstR (da_cons (de_ixX hr (de_slot 2 (pv 2)) (de_int)) (da_nil))))
    (dss_cons (ds_for PassesOwn.never (di_range1 T.b_range (da_cons (de_slot 1 (pv 1)) (da_nil))) (dg_name 4 (pg_name (i := 4) sc_counts.nd rfl (Or.inl rfl))) (dss_cons (ds_set 2 sc_counts.nd (de_lcV (own := [("items", 6)]) sc_counts.nd (di_any (de_ixX hr (de_slot 0 (pv 0)) (de_int))) (blkOk_by (own := [("items", 6)]) (N := N_counts) (sc := defScope s_counts) (by decide +kernel)) (fun _ _ _ _ _ => dgw_name 6 (by decide) (pg_name (i := 6) sc_counts.nd rfl (Or.inl rfl))) (fun _ _ _ _ _ => dts_nil) (fun _ _ _ _ _ => de_callB call_sumRD T.b_sum bt_sum (da_cons (de_lcV (own := [("item", 7)]) sc_counts.nd (di_any (de_slot 6 (pv 6))) (blkOk_by (by rfl)) (fun _ _ _ _ _ => dgw_name 7 (by decide) (pg_name (i := 7) sc_counts.nd rfl (Or.inl rfl))) (fun _ _ _ _ _ => dts_one (dt_notN (de_slot 7 (pv 7)))) (fun _ _ _ _ _ => de_ixX hr (de_slot 2 (pv 2)) (de_slot 7 (pv 7)))) (da_nil)))))
    (dss_one (ds_expr (de_append (de_slot 3 (pv 3)) (da_cons (de_ixX hr (de_slot 2 (pv 2)) (de_int)) (da_nil)))))))
    (dss_one (ds_ret (de_slot 3 (pv 3))))))
theorem mk_counts (D : DefOf K mg "counts" s_counts) (T : Txt K mg) (hB : SysB base) {k : Nat} {sp : SpD} (len : ∀ ds S Q, sp ds S Q → ds.length = 2) (hq : ∀ ds S Qd, sp ds S Qd → rd_counts { nx := fun _ S2 => fin Qd .non S2, rt := fin Qd, bk := fun _ _ => False, ct := fun _ _ => False } (pad 8 ds) S) : Has P w K mg base (k + 1) "counts" ["machine", "length"] sp :=
  let ⟨f, fd, F, hm⟩ := D.ex
  .of F hm (F.binds fun _ _ _ _ _ _ us hl => match us, hl with | [_, _], _ => rfl) (FnD.of F sc_counts _ len (fun cdv A outer s H hr => dv_counts T hB hr) hq)
abbrev s_count : Stmt := top 15
abbrev N_count : List Str := ["machine", "length"]
theorem sc_count : FnScope N_count ["machine", "length"] (defScope s_count) := ⟨rfl, rfl, rfl, by decide +kernel, rfl, by decide +kernel, by decide +kernel⟩
def rd_count (sp_counts : SpD) : TSD :=
  sRetD (tBin rIxX (tCallD sp_counts (tConsD (tSlot 0) (tConsD (tSlot 1) (tNilD)))) (tUnD rNeg (tCD (.int 1))))
theorem dv_count (T : Txt K mg) (hB : SysB base) {k : Nat} {f : Addr} {cdv : Value} {A : Around} {outer : List Env} {s : Shared} {H : Hp} (hr : RoomG k (A.deeper (envOfC "count" (defScope s_count) s.heap.objs.size f cdv))) {sp_counts : SpD} (h_counts : Has P w K mg base k "counts" ["machine", "length"] sp_counts) :
    DSs (cxOf CX0 P w K mg base N_count "count" (defScope s_count) f cdv A outer s H E0).nox (defBody s_count) (rd_count sp_counts) :=
    dss_one (ds_ret (de_ixX hr (de_call h_counts hr (da_cons (de_slot 0 (pv 0)) (da_cons (de_slot 1 (pv 1)) (da_nil)))) (de_neg (de_int))))
theorem mk_count (D : DefOf K mg "count" s_count) (T : Txt K mg) (hB : SysB base) {k : Nat} {sp_counts : SpD} (h_counts : Has P w K mg base k "counts" ["machine", "length"] sp_counts) {sp : SpD} (len : ∀ ds S Q, sp ds S Q → ds.length = 2) (hq : ∀ ds S Qd, sp ds S Qd → rd_count sp_counts { nx := fun _ S2 => fin Qd .non S2, rt := fin Qd, bk := fun _ _ => False, ct := fun _ _ => False } (pad 2 ds) S) : Has P w K mg base (k + 1) "count" ["machine", "length"] sp :=
  let ⟨f, fd, F, hm⟩ := D.ex
  .of F hm (F.binds fun _ _ _ _ _ _ us hl => match us, hl with | [_, _], _ => rfl) (FnD.of F sc_count _ len (fun cdv A outer s H hr => dv_count T hB hr h_counts) hq)
abbrev s_size : Stmt := top 16
abbrev N_size : List Str := ["machine", "least", "found"]
theorem sc_size : FnScope N_size ["machine"] (defScope s_size) := ⟨rfl, rfl, rfl, by decide +kernel, rfl, by decide +kernel, by decide +kernel⟩
def rd_size (sp_shrunk : SpD) (sp_counts : SpD) : TSD :=
  sSeqD (sAsgD (tCallD sp_shrunk (tConsD (tBin rIxX (tSlot 0) (tCD (.int 0))) (tConsD (tBin rIxX (tSlot 0) (tCD (.int 1))) (tConsD (tBin rIxX (tSlot 0) (tCD (.int 2))) (tNilD))))) (gNameD 1))
  (sSeqD (sAsgD (tCallD sp_counts (tConsD (tSlot 1) (tConsD (tBin rMulD (tCD (.int 2)) (tCallD rLenD (tConsD (tBin rIxX (tSlot 1) (tCD (.int 1))) (tNilD)))) (tNilD)))) (gNameD 2))
  (sSeqD (sIfD (tTst (tBin (rCmpI fGt) (tCallD rSumD (tConsD (tSlD (tSlot 2) (oSome (tCallD rLenD (tConsD (tBin rIxX (tSlot 1) (tCD (.int 1))) (tNilD)))) (oNone)) (tNilD))) (tCD (.int 0)))) (sRetD (tCD .non)) (sNextD))
  (sRetD (tCallD rSumD (tConsD (tSlot 2) (tNilD))))))
theorem dv_size (T : Txt K mg) (hB : SysB base) {k : Nat} {f : Addr} {cdv : Value} {A : Around} {outer : List Env} {s : Shared} {H : Hp} (hr : RoomG k (A.deeper (envOfC "size" (defScope s_size) s.heap.objs.size f cdv))) {sp_shrunk : SpD} (h_shrunk : Has P w K mg base k "shrunk" ["letters", "rows", "ends"] sp_shrunk) {sp_counts : SpD} (h_counts : Has P w K mg base k "counts" ["machine", "length"] sp_counts) :
    DSs (cxOf CX0 P w K mg base N_size "size" (defScope s_size) f cdv A outer s H E0).nox (defBody s_size) (rd_size sp_shrunk sp_counts) :=
    dss_cons (ds_set 1 sc_size.nd (de_call h_shrunk hr (da_cons (de_ixX hr (de_slot 0 (pv 0)) (de_int)) (da_cons (de_ixX hr (de_slot 0 (pv 0)) (de_int)) (da_cons (de_ixX hr (de_slot 0 (pv 0)) (de_int)) (da_nil))))))
    (dss_cons (ds_set 2 sc_size.nd (de_call h_counts hr (da_cons (de_slot 1 (pv 1)) (da_cons (de_mul (de_int) (de_callB call_lenRD T.b_len bt_len (da_cons (de_ixX hr (de_slot 1 (pv 1)) (de_int)) (da_nil)))) (da_nil)))))
    (dss_cons (ds_if (dt_gt (de_callB call_sumRD T.b_sum bt_sum (da_cons (de_slice (de_slot 2 (pv 2)) (do_some (de_callB call_lenRD T.b_len bt_len (da_cons (de_ixX hr (de_slot 1 (pv 1)) (de_int)) (da_nil)))) (do_none)) (da_nil))) (de_int)) (dss_one (ds_ret (de_non))) (dss_nil))
    (dss_one (ds_ret (de_callB call_sumRD T.b_sum bt_sum (da_cons (de_slot 2 (pv 2)) (da_nil)))))))
theorem mk_size (D : DefOf K mg "size" s_size) (T : Txt K mg) (hB : SysB base) {k : Nat} {sp_shrunk : SpD} (h_shrunk : Has P w K mg base k "shrunk" ["letters", "rows", "ends"] sp_shrunk) {sp_counts : SpD} (h_counts : Has P w K mg base k "counts" ["machine", "length"] sp_counts) {sp : SpD} (len : ∀ ds S Q, sp ds S Q → ds.length = 1) (hq : ∀ ds S Qd, sp ds S Qd → rd_size sp_shrunk sp_counts { nx := fun _ S2 => fin Qd .non S2, rt := fin Qd, bk := fun _ _ => False, ct := fun _ _ => False } (pad 3 ds) S) : Has P w K mg base (k + 1) "size" ["machine"] sp :=
  let ⟨f, fd, F, hm⟩ := D.ex
  .of F hm (F.binds fun _ _ _ _ _ _ us hl => match us, hl with | [_], _ => rfl) (FnD.of F sc_size _ len (fun cdv A outer s H hr => dv_size T hB hr h_shrunk h_counts) hq)
abbrev s_next_of : Stmt := top 17
abbrev N_next_of : List Str := ["machine", "state", "at"]
theorem sc_next_of : FnScope N_next_of ["machine", "state", "at"] (defScope s_next_of) := ⟨rfl, rfl, rfl, by decide +kernel, rfl, by decide +kernel, by decide +kernel⟩
def rd_next_of : TSD :=
  sRetD (tIfD (tTst (tUnD rIsN (tSlot 1))) (tCD .non) (tBin rIxX (tBin rIxX (tBin rIxX (tSlot 0) (tCD (.int 1))) (tSlot 1)) (tSlot 2)))
theorem dv_next_of (T : Txt K mg) (hB : SysB base) {k : Nat} {f : Addr} {cdv : Value} {A : Around} {outer : List Env} {s : Shared} {H : Hp} (hr : RoomG k (A.deeper (envOfC "next_of" (defScope s_next_of) s.heap.objs.size f cdv))) :
    DSs (cxOf CX0 P w K mg base N_next_of "next_of" (defScope s_next_of) f cdv A outer s H E0).nox (defBody s_next_of) (rd_next_of) :=
    dss_one (ds_ret (de_if (dt_isN (de_slot 1 (pv 1))) (de_non) (de_ixX hr (de_ixX hr (de_ixX hr (de_slot 0 (pv 0)) (de_int)) (de_slot 1 (pv 1))) (de_slot 2 (pv 2)))))
theorem mk_next_of (D : DefOf K mg "next_of" s_next_of) (T : Txt K mg) (hB : SysB base) {k : Nat} {sp : SpD} (len : ∀ ds S Q, sp ds S Q → ds.length = 3) (hq : ∀ ds S Qd, sp ds S Qd → rd_next_of { nx := fun _ S2 => fin Qd .non S2, rt := fin Qd, bk := fun _ _ => False, ct := fun _ _ => False } (pad 3 ds) S) : Has P w K mg base (k + 1) "next_of" ["machine", "state", "at"] sp :=
  let ⟨f, fd, F, hm⟩ := D.ex
  .of F hm (F.binds fun _ _ _ _ _ _ us hl => match us, hl with | [_, _, _], _ => rfl) (FnD.of F sc_next_of _ len (fun cdv A outer s H hr => dv_next_of T hB hr) hq)
abbrev s_ends_at : Stmt := top 18
abbrev N_ends_at : List Str := ["machine", "state"]
theorem sc_ends_at : FnScope N_ends_at ["machine", "state"] (defScope s_ends_at) := ⟨rfl, rfl, rfl, by decide +kernel, rfl, by decide +kernel, by decide +kernel⟩
def rd_ends_at : TSD :=
  sRetD (tAndV (tUnD rNotN (tSlot 1)) (tBin rIxX (tBin rIxX (tSlot 0) (tCD (.int 2))) (tSlot 1)))
theorem dv_ends_at (T : Txt K mg) (hB : SysB base) {k : Nat} {f : Addr} {cdv : Value} {A : Around} {outer : List Env} {s : Shared} {H : Hp} (hr : RoomG k (A.deeper (envOfC "ends_at" (defScope s_ends_at) s.heap.objs.size f cdv))) :
    DSs (cxOf CX0 P w K mg base N_ends_at "ends_at" (defScope s_ends_at) f cdv A outer s H E0).nox (defBody s_ends_at) (rd_ends_at) :=
    dss_one (ds_ret (de_and (de_notN (de_slot 1 (pv 1))) (de_one (de_ixX hr (de_ixX hr (de_slot 0 (pv 0)) (de_int)) (de_slot 1 (pv 1))))))
theorem mk_ends_at (D : DefOf K mg "ends_at" s_ends_at) (T : Txt K mg) (hB : SysB base) {k : Nat} {sp : SpD} (len : ∀ ds S Q, sp ds S Q → ds.length = 2) (hq : ∀ ds S Qd, sp ds S Qd → rd_ends_at { nx := fun _ S2 => fin Qd .non S2, rt := fin Qd, bk := fun _ _ => False, ct := fun _ _ => False } (pad 2 ds) S) : Has P w K mg base (k + 1) "ends_at" ["machine", "state"] sp :=
  let ⟨f, fd, F, hm⟩ := D.ex
  .of F hm (F.binds fun _ _ _ _ _ _ us hl => match us, hl with | [_, _], _ => rfl) (FnD.of F sc_ends_at _ len (fun cdv A outer s H hr => dv_ends_at T hB hr) hq)
abbrev s_met_from : Stmt := top 19
abbrev N_met_from : List Str := ["rows", "found", "known", "at", "item"]
theorem sc_met_from : FnScope N_met_from ["rows"] (defScope s_met_from) := ⟨rfl, rfl, rfl, by decide +kernel, rfl, by decide +kernel, by decide +kernel⟩
def rd_met_from : TSD :=
  sSeqD (sPar3 1 2 3 (tConsD (tLstR (tConsD (tCD (.int 0)) (tNilD))) (tConsD (tDispR [(tCD (.int 0), tCD (.bl true))]) (tConsD (tCD (.int 0)) (tNilD)))))
  (sSeqD (sWhileD (tTst (tBin (rCmpI fLt) (tSlot 3) (tCallD rLenD (tConsD (tSlot 1) (tNilD))))) (sSeqD (sForD (iAnyD (tBin rIxX (tSlot 0) (tBin rIxX (tSlot 1) (tSlot 3)))) (gNameD 4) (sIfD (tAndD (tTst (tUnD rNotN (tSlot 4))) (tTst (tBin (rInY true) (tSlot 4) (tSlot 2)))) (sSeqD (sAsgD (tCD (.bl true)) (gSubX (tSlot 2) (tSlot 4)))
  (sDropD (tMethL rAppD (tSlot 1) (tConsD (tSlot 4) (tNilD))))) (sNextD)))
  (sAsgD (tBin rAddD (tSlot 3) (tCD (.int 1))) (gNameD 3))))
  (sRetD (tSlot 1)))
theorem dv_met_from (T : Txt K mg) (hB : SysB base) {k : Nat} {f : Addr} {cdv : Value} {A : Around} {outer : List Env} {s : Shared} {H : Hp} (hr : RoomG k (A.deeper (envOfC "met_from" (defScope s_met_from) s.heap.objs.size f cdv))) :
    DSs (cxOf CX0 P w K mg base N_met_from "met_from" (defScope s_met_from) f cdv A outer s H E0).nox (defBody s_met_from) (rd_met_from) :=
    dss_cons (ds_par3 1 2 3 sc_met_from.nd (da_cons (de_lstR (da_cons (de_int) (da_nil))) (da_cons (de_dispR (dps_cons (de_int) (de_bl) (dps_nil))) (da_cons (de_int) (da_nil)))))
    (dss_cons (ds_while PassesOwn.never (dt_lt (de_slot 3 (pv 3)) (de_callB call_lenRD T.b_len bt_len (da_cons (de_slot 1 (pv 1)) (da_nil)))) (dss_cons (ds_for PassesOwn.never (di_any (de_ixX hr (de_slot 0 (pv 0)) (de_ixX hr (de_slot 1 (pv 1)) (de_slot 3 (pv 3))))) (dg_name 4 (pg_name (i := 4) sc_met_from.nd rfl (Or.inl rfl))) (dss_one (ds_if (dt_w (dw_and (dt_notN (de_slot 4 (pv 4))) (dw_and1 (dt_notInY hr (de_slot 4 (pv 4)) (de_slot 2 (pv 2)))))) (dss_cons (ds_asg (de_bl) (dg_subX hr (de_slot 2 (pv 2)) (de_slot 4 (pv 4))))
    (dss_one (ds_expr (de_append (de_slot 1 (pv 1)) (da_cons (de_slot 4 (pv 4)) (da_nil)))))) (dss_nil))))
    (dss_one (ds_set 3 sc_met_from.nd (de_add (de_slot 3 (pv 3)) (de_int))))))
    (dss_one (ds_ret (de_slot 1 (pv 1)))))
theorem mk_met_from (D : DefOf K mg "met_from" s_met_from) (T : Txt K mg) (hB : SysB base) {k : Nat} {sp : SpD} (len : ∀ ds S Q, sp ds S Q → ds.length = 1) (hq : ∀ ds S Qd, sp ds S Qd → rd_met_from { nx := fun _ S2 => fin Qd .non S2, rt := fin Qd, bk := fun _ _ => False, ct := fun _ _ => False } (pad 5 ds) S) : Has P w K mg base (k + 1) "met_from" ["rows"] sp :=
  let ⟨f, fd, F, hm⟩ := D.ex
  .of F hm (F.binds fun _ _ _ _ _ _ us hl => match us, hl with | [_], _ => rfl) (FnD.of F sc_met_from _ len (fun cdv A outer s H hr => dv_met_from T hB hr) hq)
abbrev s_living : Stmt := top 20
abbrev N_living : List Str := ["rows", "ends", "before", "state", "row", "item", "found", "end", "waiting"]
theorem sc_living : FnScope N_living ["rows", "ends"] (defScope s_living) := ⟨rfl, rfl, rfl, by decide +kernel, rfl, by decide +kernel, by decide +kernel⟩
def rd_living : TSD :=
  sSeqD (sAsgD (tLcV (iAnyD (tSlot 0)) (gNameD 4) (tYesD) (tLstR (tNilD)) [4]) (gNameD 2))
  (sSeqD (sForD (iEnumD (tConsD (tSlot 0) (tNilD))) (gTupD 2 (gConsD (gNameD 3) (gConsD (gNameD 4) (gNilD)))) (sForD (iAnyD (tSlot 4)) (gNameD 5) (sIfD (tTst (tUnD rNotN (tSlot 5))) (sDropD (tMethL rAppD (tBin rIxX (tSlot 2) (tSlot 5)) (tConsD (tSlot 3) (tNilD)))) (sNextD))))
  (sSeqD (sAsgD (tDicR) (gNameD 6))
  (sSeqD (sForD (iEnumD (tConsD (tSlot 1) (tNilD))) (gTupD 2 (gConsD (gNameD 3) (gConsD (gNameD 7) (gNilD)))) (sIfD (tTst (tSlot 7)) (sAsgD (tCD (.bl true)) (gSubX (tSlot 6) (tSlot 3))) (sNextD)))
  (sSeqD (sAsgD (tCallD (rListW true) (tConsD (tSlot 6) (tNilD))) (gNameD 8))
  (sSeqD (sWhileD (tTst (tBin rNeD (tSlot 8) (tLstV (tNilD)))) (sForD (iAnyD (tBin rIxX (tSlot 2) (tMethA rPopD (tSlot 8) tNilD))) (gNameD 3) (sIfD (tTst (tBin (rInY true) (tSlot 3) (tSlot 6))) (sSeqD (sAsgD (tCD (.bl true)) (gSubX (tSlot 6) (tSlot 3)))
  (sDropD (tMethL rAppD (tSlot 8) (tConsD (tSlot 3) (tNilD))))) (sNextD))))
  (sRetD (tSlot 6)))))))
theorem dv_living (T : Txt K mg) (hB : SysB base) {k : Nat} {f : Addr} {cdv : Value} {A : Around} {outer : List Env} {s : Shared} {H : Hp} (hr : RoomG k (A.deeper (envOfC "living" (defScope s_living) s.heap.objs.size f cdv))) :
    DSs (cxOf CX0 P w K mg base N_living "living" (defScope s_living) f cdv A outer s H E0).nox (defBody s_living) (rd_living) :=
    dss_cons (ds_setLcV 2 (own := [("row", 4)]) sc_living.nd (di_any (de_slot 0 (pv 0))) (blkOk_by (own := [("row", 4)]) (N := N_living) (sc := defScope s_living) (by decide +kernel)) (fun _ _ _ _ _ => dgw_name 4 (by decide) (pg_name (i := 4) sc_living.nd rfl (Or.inl rfl))) (fun _ _ _ _ _ => dts_nil) (fun _ _ _ _ _ => de_lstR (da_nil)))
    (dss_cons (ds_for PassesOwn.never (di_enum T.b_enumerate (da_cons (de_slot 0 (pv 0)) (da_nil))) (dg_tup rfl (dgs_cons (dg_name 3 (pg_name (i := 3) sc_living.nd rfl (Or.inl rfl))) (dgs_cons (dg_name 4 (pg_name (i := 4) sc_living.nd rfl (Or.inl rfl))) (dgs_nil)))) (dss_one (ds_for PassesOwn.never (di_any (de_slot 4 (pv 4))) (dg_name 5 (pg_name (i := 5) sc_living.nd rfl (Or.inl rfl))) (dss_one (ds_if (dt_notN (de_slot 5 (pv 5))) (dss_one (ds_expr (de_append (de_ixX hr (de_slot 2 (pv 2)) (de_slot 5 (pv 5))) (da_cons (de_slot 3 (pv 3)) (da_nil))))) (dss_nil))))))
    (dss_cons (ds_set 6 sc_living.nd (de_dicR))
    (dss_cons (ds_for PassesOwn.never (di_enum T.b_enumerate (da_cons (de_slot 1 (pv 1)) (da_nil))) (dg_tup rfl (dgs_cons (dg_name 3 (pg_name (i := 3) sc_living.nd rfl (Or.inl rfl))) (dgs_cons (dg_name 7 (pg_name (i := 7) sc_living.nd rfl (Or.inl rfl))) (dgs_nil)))) (dss_one (ds_if (dt_val (de_slot 7 (pv 7))) (dss_one (ds_asg (de_bl) (dg_subX hr (de_slot 6 (pv 6)) (de_slot 3 (pv 3))))) (dss_nil))))
    (dss_cons (ds_set 8 sc_living.nd (de_callTy (call_listW rfl true) T.b_list bt_list (da_cons (de_slot 6 (pv 6)) (da_nil))))
    (dss_cons (ds_while PassesOwn.never (dt_ne hr hB (de_slot 8 (pv 8)) (de_lstV (da_nil))) (dss_one (ds_for PassesOwn.never (di_any (de_ixX hr (de_slot 2 (pv 2)) (de_pop (de_slot 8 (pv 8))))) (dg_name 3 (pg_name (i := 3) sc_living.nd rfl (Or.inl rfl))) (dss_one (ds_if (dt_notInY hr (de_slot 3 (pv 3)) (de_slot 6 (pv 6))) (dss_cons (ds_asg (de_bl) (dg_subX hr (de_slot 6 (pv 6)) (de_slot 3 (pv 3))))
    (dss_one (ds_expr (de_append (de_slot 8 (pv 8)) (da_cons (de_slot 3 (pv 3)) (da_nil)))))) (dss_nil))))))
    (dss_one (ds_ret (de_slot 6 (pv 6)))))))))
theorem mk_living (D : DefOf K mg "living" s_living) (T : Txt K mg) (hB : SysB base) {k : Nat} {sp : SpD} (len : ∀ ds S Q, sp ds S Q → ds.length = 2) (hq : ∀ ds S Qd, sp ds S Qd → rd_living { nx := fun _ S2 => fin Qd .non S2, rt := fin Qd, bk := fun _ _ => False, ct := fun _ _ => False } (pad 9 ds) S) : Has P w K mg base (k + 1) "living" ["rows", "ends"] sp :=
  let ⟨f, fd, F, hm⟩ := D.ex
  .of F hm (F.binds fun _ _ _ _ _ _ us hl => match us, hl with | [_, _], _ => rfl) (FnD.of F sc_living _ len (fun cdv A outer s H hr => dv_living T hB hr) hq)
abbrev s_parted : Stmt := top 21
abbrev N_parted : List Str := ["rows", "ends", "states", "sorts", "many", "more", "places", "later", "state", "mark", "item"]
theorem sc_parted : FnScope N_parted ["rows", "ends", "states"] (defScope s_parted) := ⟨rfl, rfl, rfl, by decide +kernel, rfl, by decide +kernel, by decide +kernel⟩
def rd_parted (w : World) : TSD :=
  sSeqD (sAsgD (tDcV (iAnyD (tSlot 2)) (gNameD 8) (tYesD) (tSlot 8) (tCallD rIntD (tConsD (tBin (rIxW w) (tSlot 1) (tSlot 8)) (tNilD))) [8]) (gNameD 3))
  (sSeqD (sPar2 4 5 (tConsD (tCD (.int 0)) (tConsD (tLenSetD (tLcV (iAnyD (tSlot 2)) (gNameD 8) (tYesD) (tBin (rIxW w) (tSlot 3) (tSlot 8)) [8])) (tNilD))))
  (sSeqD (sWhileD (tTst (tBin (rCmpI fGt) (tSlot 5) (tSlot 4))) (sSeqD (sPar3 4 6 7 (tConsD (tSlot 5) (tConsD (tDicW w) (tConsD (tDicW w) (tNilD)))))
  (sSeqD (sForD (iAnyD (tSlot 2)) (gNameD 8) (sSeqD (sAsgD (tBin rAddD (tTupD (tConsD (tBin (rIxW w) (tSlot 3) (tSlot 8)) (tNilD))) (tCallD rTupleD (tConsD (tLcV (iAnyD (tBin (rIxW w) (tSlot 0) (tSlot 8))) (gNameD 10) (tYesD) (tMethW w (rGetW w) (tSlot 3) (tConsD (tSlot 10) (tNilD))) [10]) (tNilD)))) (gNameD 9))
  (sAsgD (tMethW w (rSetdW w) (tSlot 6) (tConsD (tSlot 9) (tConsD (tCallD (rLenW w) (tConsD (tSlot 6) (tNilD))) (tNilD)))) (gSubW w (tSlot 7) (tSlot 8)))))
  (sSeqD (sCvD (sAsgD (tTupD (tConsD (tSlot 7) (tConsD (tCallD (rLenW w) (tConsD (tSlot 6) (tNilD))) (tNilD)))) (gTupD 2 (gConsD (gNameD 3) (gConsD (gNameD 5) (gNilD))))))
  (sIfD (tTst (tBin (rCmpI fGt) (tSlot 5) (tCD (.int 400)))) (sNeverD) (sNextD))))))
  (sRetD (tSlot 3))))
theorem dv_parted (T : Txt K mg) (hB : SysB base) {k : Nat} {f : Addr} {cdv : Value} {A : Around} {outer : List Env} {s : Shared} {H : Hp} (hr : RoomG k (A.deeper (envOfC "parted" (defScope s_parted) s.heap.objs.size f cdv))) :
    DSs (cxOf CX0 P w K mg base N_parted "parted" (defScope s_parted) f cdv A outer s H E0).nox (defBody s_parted) (rd_parted w) :=
    dss_cons (ds_set 3 sc_parted.nd (de_dcV (own := [("state", 8)]) sc_parted.nd (di_any (de_slot 2 (pv 2))) (blkOk_by (own := [("state", 8)]) (N := N_parted) (sc := defScope s_parted) (by decide +kernel)) (fun _ _ _ _ _ => dgw_name 8 (by decide) (pg_name (i := 8) sc_parted.nd rfl (Or.inl rfl))) (fun _ _ _ _ _ => dts_nil) (fun _ _ _ _ _ => de_slot 8 (pv 8)) (fun _ _ _ _ _ => de_callTy call_intRD T.b_int bt_int (da_cons (de_ixW hr (de_slot 1 (pv 1)) (de_slot 8 (pv 8))) (da_nil)))))
    (dss_cons (ds_par 4 5 sc_parted.nd (da_cons (de_int) (da_cons (de_lenSet T.b_len T.b_set (de_lcV (own := [("state", 8)]) sc_parted.nd (di_any (de_slot 2 (pv 2))) (blkOk_by (own := [("state", 8)]) (N := N_parted) (sc := defScope s_parted) (by decide +kernel)) (fun _ _ _ _ _ => dgw_name 8 (by decide) (pg_name (i := 8) sc_parted.nd rfl (Or.inl rfl))) (fun _ _ _ _ _ => dts_nil) (fun _ _ _ _ _ => de_ixW hr (de_slot 3 (pv 3)) (de_slot 8 (pv 8))))) (da_nil))))
    (dss_cons (ds_while PassesOwn.never (dt_gt (de_slot 5 (pv 5)) (de_slot 4 (pv 4))) (dss_cons (ds_par3 4 6 7 sc_parted.nd (da_cons (de_slot 5 (pv 5)) (da_cons (de_dicW) (da_cons (de_dicW) (da_nil)))))
    (dss_cons (ds_for PassesOwn.never (di_any (de_slot 2 (pv 2))) (dg_name 8 (pg_name (i := 8) sc_parted.nd rfl (Or.inl rfl))) (dss_cons (ds_set 9 sc_parted.nd (de_add (de_tup (da_cons (de_ixW hr (de_slot 3 (pv 3)) (de_slot 8 (pv 8))) (da_nil))) (de_callTy call_tupleRD T.b_tuple bt_tuple (da_cons (de_lcV (own := [("item", 10)]) sc_parted.nd (di_any (de_ixW hr (de_slot 0 (pv 0)) (de_slot 8 (pv 8)))) (blkOk_by (own := [("item", 10)]) (N := N_parted) (sc := defScope s_parted) (by decide +kernel)) (fun _ _ _ _ _ => dgw_name 10 (by decide) (pg_name (i := 10) sc_parted.nd rfl (Or.inl rfl))) (fun _ _ _ _ _ => dts_nil) (fun _ _ _ _ _ => de_getW hr (de_slot 3 (pv 3)) (da_cons (de_slot 10 (pv 10)) (da_nil)))) (da_nil)))))
    (dss_one (ds_asg (de_setdW hr (de_slot 6 (pv 6)) (da_cons (de_slot 9 (pv 9)) (da_cons (de_callB call_lenW T.b_len bt_len (da_cons (de_slot 6 (pv 6)) (da_nil))) (da_nil)))) (dg_subW hr (de_slot 7 (pv 7)) (de_slot 8 (pv 8)))))))
    (dss_cons (ds_cv (ds_asg (de_tup (da_cons (de_slot 7 (pv 7)) (da_cons (de_callB call_lenW T.b_len bt_len (da_cons (de_slot 6 (pv 6)) (da_nil))) (da_nil)))) (dg_tup rfl (dgs_cons (dg_name 3 (pg_name (i := 3) sc_parted.nd rfl (Or.inr rfl))) (dgs_cons (dg_name 5 (pg_name (i := 5) sc_parted.nd rfl (Or.inl rfl))) (dgs_nil))))))
    (dss_one (ds_if (dt_gt (de_slot 5 (pv 5)) (de_gI T.c_MAX_ROWS)) (dss_one (ds_never)) (dss_nil)))))))
    (dss_one (ds_ret (de_slot 3 (pv 3))))))
theorem mk_parted (D : DefOf K mg "parted" s_parted) (T : Txt K mg) (hB : SysB base) {k : Nat} {sp : SpD} (len : ∀ ds S Q, sp ds S Q → ds.length = 3) (hq : ∀ ds S Qd, sp ds S Qd → rd_parted w { nx := fun _ S2 => fin Qd .non S2, rt := fin Qd, bk := fun _ _ => False, ct := fun _ _ => False } (pad 11 ds) S) : Has P w K mg base (k + 1) "parted" ["rows", "ends", "states"] sp :=
  let ⟨f, fd, F, hm⟩ := D.ex
  .of F hm (F.binds fun _ _ _ _ _ _ us hl => match us, hl with | [_, _, _], _ => rfl) (FnD.of F sc_parted _ len (fun cdv A outer s H hr => dv_parted T hB hr) hq)
abbrev s_shrunk : Stmt := top 22
abbrev N_shrunk : List Str := ["letters", "rows", "ends", "alive", "sorts", "heads", "places", "found", "row", "item", "state"]
theorem sc_shrunk : FnScope N_shrunk ["letters", "rows", "ends"] (defScope s_shrunk) := ⟨rfl, rfl, rfl, by decide +kernel, rfl, by decide +kernel, by decide +kernel⟩
def rd_shrunk (sp_living : SpD) (sp_parted : SpD) (sp_met_from : SpD) : TSD :=
  sSeqD (sAsgD (tCallD sp_living (tConsD (tSlot 1) (tConsD (tSlot 2) (tNilD)))) (gNameD 3))
  (sSeqD (sIfD (tTst (tBin (rInY true) (tCD (.int 0)) (tSlot 3))) (sRetD (tTupD (tConsD (tSlot 0) (tConsD (tTupD (tConsD (tBin rMulD (tTupD (tConsD (tCD .non) (tNilD))) (tSlot 0)) (tNilD))) (tConsD (tTupD (tConsD (tCD (.bl false)) (tNilD))) (tNilD)))))) (sNextD))
  (sSeqD (sAsgD (tCallD sp_parted (tConsD (tSlot 1) (tConsD (tSlot 2) (tConsD (tLcV (iAnyD (tCallD sp_met_from (tConsD (tSlot 1) (tNilD)))) (gNameD 10) (tTst (tBin (rInY false) (tSlot 10) (tSlot 3))) (tSlot 10) [10]) (tNilD))))) (gNameD 4))
  (sSeqD (sPar3 5 6 7 (tConsD (tLstR (tConsD (tCD (.int 0)) (tNilD))) (tConsD (tDispR [(tBin rIxX (tSlot 4) (tCD (.int 0)), tCD (.int 0))]) (tConsD (tLstR (tNilD)) (tNilD)))))
  (sSeqD (sWhileD (tTst (tBin (rCmpI fLt) (tCallD rLenD (tConsD (tSlot 7) (tNilD))) (tCallD rLenD (tConsD (tSlot 5) (tNilD))))) (sSeqD (sAsgD (tLstR (tNilD)) (gNameD 8))
  (sSeqD (sForD (iAnyD (tBin rIxX (tSlot 1) (tBin rIxX (tSlot 5) (tCallD rLenD (tConsD (tSlot 7) (tNilD)))))) (gNameD 9) (sSeqD (sIfD (tAndD (tTst (tBin (rInY false) (tSlot 9) (tSlot 4))) (tTst (tBin (rInY true) (tBin rIxX (tSlot 4) (tSlot 9)) (tSlot 6)))) (sSeqD (sAsgD (tCallD rLenD (tConsD (tSlot 5) (tNilD))) (gSubX (tSlot 6) (tBin rIxX (tSlot 4) (tSlot 9))))
  (sDropD (tMethL rAppD (tSlot 5) (tConsD (tSlot 9) (tNilD))))) (sNextD))
  (sDropD (tMethL rAppD (tSlot 8) (tConsD (tIfD (tTst (tBin (rInY false) (tSlot 9) (tSlot 4))) (tBin rIxX (tSlot 6) (tBin rIxX (tSlot 4) (tSlot 9))) (tCD .non)) (tNilD))))))
  (sDropD (tMethL rAppD (tSlot 7) (tConsD (tCallD rTupleD (tConsD (tSlot 8) (tNilD))) (tNilD)))))))
  (sRetD (tTupD (tConsD (tSlot 0) (tConsD (tCallD rTupleD (tConsD (tSlot 7) (tNilD))) (tConsD (tCallD rTupleD (tConsD (tLcV (iAnyD (tSlot 5)) (gNameD 10) (tYesD) (tCallD rBoolD (tConsD (tBin rIxX (tSlot 2) (tSlot 10)) (tNilD))) [10]) (tNilD))) (tNilD))))))))))
theorem dv_shrunk (T : Txt K mg) (hB : SysB base) {k : Nat} {f : Addr} {cdv : Value} {A : Around} {outer : List Env} {s : Shared} {H : Hp} (hr : RoomG k (A.deeper (envOfC "shrunk" (defScope s_shrunk) s.heap.objs.size f cdv))) {sp_living : SpD} (h_living : Has P w K mg base k "living" ["rows", "ends"] sp_living) {sp_parted : SpD} (h_parted : Has P w K mg base k "parted" ["rows", "ends", "states"] sp_parted) {sp_met_from : SpD} (h_met_from : Has P w K mg base k "met_from" ["rows"] sp_met_from) :
    DSs (cxOf CX0 P w K mg base N_shrunk "shrunk" (defScope s_shrunk) f cdv A outer s H E0).nox (defBody s_shrunk) (rd_shrunk sp_living sp_parted sp_met_from) :=
    dss_cons (ds_set 3 sc_shrunk.nd (de_call h_living hr (da_cons (de_slot 1 (pv 1)) (da_cons (de_slot 2 (pv 2)) (da_nil)))))
    (dss_cons (ds_if (dt_notInY hr (de_int) (de_slot 3 (pv 3))) (dss_one (ds_ret (de_tup (da_cons (de_slot 0 (pv 0)) (da_cons (de_tup (da_cons (de_mul (de_tup (da_cons (de_non) (da_nil))) (de_slot 0 (pv 0))) (da_nil))) (da_cons (de_tup (da_cons (de_bl) (da_nil))) (da_nil))))))) (dss_nil))
    (dss_cons (ds_set 4 sc_shrunk.nd (de_call h_parted hr (da_cons (de_slot 1 (pv 1)) (da_cons (de_slot 2 (pv 2)) (da_cons (de_lcV (own := [("state", 10)]) sc_shrunk.nd (di_any (de_call h_met_from hr (da_cons (de_slot 1 (pv 1)) (da_nil)))) (blkOk_by (own := [("state", 10)]) (N := N_shrunk) (sc := defScope s_shrunk) (by decide +kernel)) (fun _ _ _ _ _ => dgw_name 10 (by decide) (pg_name (i := 10) sc_shrunk.nd rfl (Or.inl rfl))) (fun _ _ _ _ _ => dts_one (dt_inY hr (de_slot 10 (pv 10)) (de_slot 3 (pv 3)))) (fun _ _ _ _ _ => de_slot 10 (pv 10))) (da_nil))))))
    (dss_cons (ds_par3 5 6 7 sc_shrunk.nd (da_cons (de_lstR (da_cons (de_int) (da_nil))) (da_cons (de_dispR (dps_cons (de_ixX hr (de_slot 4 (pv 4)) (de_int)) (de_int) (dps_nil))) (da_cons (de_lstR (da_nil)) (da_nil)))))
    (dss_cons (ds_while PassesOwn.never (dt_lt (de_callB call_lenRD T.b_len bt_len (da_cons (de_slot 7 (pv 7)) (da_nil))) (de_callB call_lenRD T.b_len bt_len (da_cons (de_slot 5 (pv 5)) (da_nil)))) (dss_cons (ds_set 8 sc_shrunk.nd (de_lstR (da_nil)))
    (dss_cons (ds_for PassesOwn.never (di_any (de_ixX hr (de_slot 1 (pv 1)) (de_ixX hr (de_slot 5 (pv 5)) (de_callB call_lenRD T.b_len bt_len (da_cons (de_slot 7 (pv 7)) (da_nil)))))) (dg_name 9 (pg_name (i := 9) sc_shrunk.nd rfl (Or.inl rfl))) (dss_cons (ds_if (dt_w (dw_and (dt_inY hr (de_slot 9 (pv 9)) (de_slot 4 (pv 4))) (dw_and1 (dt_notInY hr (de_ixX hr (de_slot 4 (pv 4)) (de_slot 9 (pv 9))) (de_slot 6 (pv 6)))))) (dss_cons (ds_asg (de_callB call_lenRD T.b_len bt_len (da_cons (de_slot 5 (pv 5)) (da_nil))) (dg_subX hr (de_slot 6 (pv 6)) (de_ixX hr (de_slot 4 (pv 4)) (de_slot 9 (pv 9)))))
    (dss_one (ds_expr (de_append (de_slot 5 (pv 5)) (da_cons (de_slot 9 (pv 9)) (da_nil)))))) (dss_nil))
    (dss_one (ds_expr (de_append (de_slot 8 (pv 8)) (da_cons (de_if (dt_inY hr (de_slot 9 (pv 9)) (de_slot 4 (pv 4))) (de_ixX hr (de_slot 6 (pv 6)) (de_ixX hr (de_slot 4 (pv 4)) (de_slot 9 (pv 9)))) (de_non)) (da_nil)))))))
    (dss_one (ds_expr (de_append (de_slot 7 (pv 7)) (da_cons (de_callTy call_tupleRD T.b_tuple bt_tuple (da_cons (de_slot 8 (pv 8)) (da_nil))) (da_nil))))))))
    (dss_one (ds_ret (de_tup (da_cons (de_slot 0 (pv 0)) (da_cons (de_callTy call_tupleRD T.b_tuple bt_tuple (da_cons (de_slot 7 (pv 7)) (da_nil))) (da_cons (de_callTy call_tupleRD T.b_tuple bt_tuple (da_cons (de_lcV (own := [("state", 10)]) sc_shrunk.nd (di_any (de_slot 5 (pv 5))) (blkOk_by (own := [("state", 10)]) (N := N_shrunk) (sc := defScope s_shrunk) (by decide +kernel)) (fun _ _ _ _ _ => dgw_name 10 (by decide) (pg_name (i := 10) sc_shrunk.nd rfl (Or.inl rfl))) (fun _ _ _ _ _ => dts_nil) (fun _ _ _ _ _ => de_callTy call_boolRD T.b_bool bt_bool (da_cons (de_ixX hr (de_slot 2 (pv 2)) (de_slot 10 (pv 10))) (da_nil)))) (da_nil))) (da_nil)))))))))))
theorem mk_shrunk (D : DefOf K mg "shrunk" s_shrunk) (T : Txt K mg) (hB : SysB base) {k : Nat} {sp_living : SpD} (h_living : Has P w K mg base k "living" ["rows", "ends"] sp_living) {sp_parted : SpD} (h_parted : Has P w K mg base k "parted" ["rows", "ends", "states"] sp_parted) {sp_met_from : SpD} (h_met_from : Has P w K mg base k "met_from" ["rows"] sp_met_from) {sp : SpD} (len : ∀ ds S Q, sp ds S Q → ds.length = 3) (hq : ∀ ds S Qd, sp ds S Qd → rd_shrunk sp_living sp_parted sp_met_from { nx := fun _ S2 => fin Qd .non S2, rt := fin Qd, bk := fun _ _ => False, ct := fun _ _ => False } (pad 11 ds) S) : Has P w K mg base (k + 1) "shrunk" ["letters", "rows", "ends"] sp :=
  let ⟨f, fd, F, hm⟩ := D.ex
  .of F hm (F.binds fun _ _ _ _ _ _ us hl => match us, hl with | [_, _, _], _ => rfl) (FnD.of F sc_shrunk _ len (fun cdv A outer s H hr => dv_shrunk T hB hr h_living h_parted h_met_from) hq)
abbrev s_smallest : Stmt := top 23
abbrev N_smallest : List Str := ["machine"]
theorem sc_smallest : FnScope N_smallest ["machine"] (defScope s_smallest) := ⟨rfl, rfl, rfl, by decide +kernel, rfl, by decide +kernel, by decide +kernel⟩
def rd_smallest (sp_shrunk : SpD) : TSD :=
  sRetD (tCallD sp_shrunk (tConsD (tBin rIxX (tSlot 0) (tCD (.int 0))) (tConsD (tBin rIxX (tSlot 0) (tCD (.int 1))) (tConsD (tBin rIxX (tSlot 0) (tCD (.int 2))) (tNilD)))))
theorem dv_smallest (T : Txt K mg) (hB : SysB base) {k : Nat} {f : Addr} {cdv : Value} {A : Around} {outer : List Env} {s : Shared} {H : Hp} (hr : RoomG k (A.deeper (envOfC "smallest" (defScope s_smallest) s.heap.objs.size f cdv))) {sp_shrunk : SpD} (h_shrunk : Has P w K mg base k "shrunk" ["letters", "rows", "ends"] sp_shrunk) :
    DSs (cxOf CX0 P w K mg base N_smallest "smallest" (defScope s_smallest) f cdv A outer s H E0).nox (defBody s_smallest) (rd_smallest sp_shrunk) :=
    dss_one (ds_ret (de_call h_shrunk hr (da_cons (de_ixX hr (de_slot 0 (pv 0)) (de_int)) (da_cons (de_ixX hr (de_slot 0 (pv 0)) (de_int)) (da_cons (de_ixX hr (de_slot 0 (pv 0)) (de_int)) (da_nil))))))
theorem mk_smallest (D : DefOf K mg "smallest" s_smallest) (T : Txt K mg) (hB : SysB base) {k : Nat} {sp_shrunk : SpD} (h_shrunk : Has P w K mg base k "shrunk" ["letters", "rows", "ends"] sp_shrunk) {sp : SpD} (len : ∀ ds S Q, sp ds S Q → ds.length = 1) (hq : ∀ ds S Qd, sp ds S Qd → rd_smallest sp_shrunk { nx := fun _ S2 => fin Qd .non S2, rt := fin Qd, bk := fun _ _ => False, ct := fun _ _ => False } (pad 1 ds) S) : Has P w K mg base (k + 1) "smallest" ["machine"] sp :=
  let ⟨f, fd, F, hm⟩ := D.ex
  .of F hm (F.binds fun _ _ _ _ _ _ us hl => match us, hl with | [_], _ => rfl) (FnD.of F sc_smallest _ len (fun cdv A outer s H hr => dv_smallest T hB hr h_shrunk) hq)
abbrev s_joint : Stmt := top 24
abbrev N_joint : List Str := ["one", "other", "how", "places", "waiting", "rows", "ends", "state", "second", "row", "at", "pair"]
theorem sc_joint : FnScope N_joint ["one", "other", "how"] (defScope s_joint) := ⟨rfl, rfl, rfl, by decide +kernel, rfl, by decide +kernel, by decide +kernel⟩
def rd_joint (w : World) (sp_next_of : SpD) (sp_is_in : SpD) (sp_ends_at : SpD) (sp_shrunk : SpD) : TSD :=
  sSeqD (sAsgD (tTupD (tConsD (tDisp1T w (tTupD (tConsD (tCD (.int 0)) (tConsD (tCD (.int 0)) (tNilD)))) (tCD (.int 0))) (tConsD (tLstR (tConsD (tTupD (tConsD (tCD (.int 0)) (tConsD (tCD (.int 0)) (tNilD)))) (tNilD))) (tConsD (tLstR (tNilD)) (tConsD (tLstR (tNilD)) (tNilD)))))) (gTupD 4 (gConsD (gNameD 3) (gConsD (gNameD 4) (gConsD (gNameD 5) (gConsD (gNameD 6) (gNilD)))))))
  (sSeqD (sWhileD (tTst (tBin (rCmpI fLt) (tCallD (rLenW w) (tConsD (tSlot 5) (tNilD))) (tCallD (rLenW w) (tConsD (tSlot 4) (tNilD))))) (sSeqD (sAsgD (tBin (rIxW w) (tSlot 4) (tCallD (rLenW w) (tConsD (tSlot 5) (tNilD)))) (gTupD 2 (gConsD (gNameD 7) (gConsD (gNameD 8) (gNilD)))))
  (sSeqD (sAsgD (tLstR (tNilD)) (gNameD 9))
  (sSeqD (sForD (iRng1D (tConsD (tBin (rIxW w) (tSlot 0) (tCD (.int 0))) (tNilD))) (gNameD 10) (sSeqD (sAsgD (tTupD (tConsD (tCallD sp_next_of (tConsD (tSlot 0) (tConsD (tSlot 7) (tConsD (tSlot 10) (tNilD))))) (tConsD (tCallD sp_next_of (tConsD (tSlot 1) (tConsD (tSlot 8) (tConsD (tSlot 10) (tNilD))))) (tNilD)))) (gNameD 11))
  (sSeqD (sIfD (tAndD (tTst (tBin rNeD (tSlot 11) (tCD (.tup [.non, .non])))) (tTst (tBin (rInW w true) (tSlot 11) (tSlot 3)))) (sSeqD (sAsgD (tCallD (rLenW w) (tConsD (tSlot 4) (tNilD))) (gSubW w (tSlot 3) (tSlot 11)))
  (sDropD (tMethL rAppD (tSlot 4) (tConsD (tSlot 11) (tNilD))))) (sNextD))
  (sDropD (tMethL rAppD (tSlot 9) (tConsD (tMethW w (rGetW w) (tSlot 3) (tConsD (tSlot 11) (tNilD))) (tNilD)))))))
  (sSeqD (sCvD (sDropD (tMethL rAppD (tSlot 5) (tConsD (tSlot 9) (tNilD)))))
  (sDropD (tMethL rAppD (tSlot 6) (tConsD (tCallD sp_is_in (tConsD (tSlot 2) (tConsD (tCallD sp_ends_at (tConsD (tSlot 0) (tConsD (tSlot 7) (tNilD)))) (tConsD (tCallD sp_ends_at (tConsD (tSlot 1) (tConsD (tSlot 8) (tNilD)))) (tNilD))))) (tNilD)))))))))
  (sCvD (sRetD (tCallD sp_shrunk (tConsD (tBin (rIxW w) (tSlot 0) (tCD (.int 0))) (tConsD (tSlot 5) (tConsD (tSlot 6) (tNilD))))))))
theorem dv_joint (T : Txt K mg) (hB : SysB base) {k : Nat} {f : Addr} {cdv : Value} {A : Around} {outer : List Env} {s : Shared} {H : Hp} (hr : RoomG k (A.deeper (envOfC "joint" (defScope s_joint) s.heap.objs.size f cdv))) {sp_next_of : SpD} (h_next_of : Has P w K mg base k "next_of" ["machine", "state", "at"] sp_next_of) {sp_is_in : SpD} (h_is_in : Has P w K mg base k "is_in" ["how", "first", "second"] sp_is_in) {sp_ends_at : SpD} (h_ends_at : Has P w K mg base k "ends_at" ["machine", "state"] sp_ends_at) {sp_shrunk : SpD} (h_shrunk : Has P w K mg base k "shrunk" ["letters", "rows", "ends"] sp_shrunk) :
    DSs (cxOf CX0 P w K mg base N_joint "joint" (defScope s_joint) f cdv A outer s H E0).nox (defBody s_joint) (rd_joint w sp_next_of sp_is_in sp_ends_at sp_shrunk) :=
    dss_cons (ds_asg (de_tup (da_cons (de_disp1 hr (de_tup (da_cons (de_int) (da_cons (de_int) (da_nil)))) (de_int)) (da_cons (de_lstR (da_cons (de_tup (da_cons (de_int) (da_cons (de_int) (da_nil)))) (da_nil))) (da_cons (de_lstR (da_nil)) (da_cons (de_lstR (da_nil)) (da_nil)))))) (dg_tup rfl (dgs_cons (dg_name 3 (pg_name (i := 3) sc_joint.nd rfl (Or.inl rfl))) (dgs_cons (dg_name 4 (pg_name (i := 4) sc_joint.nd rfl (Or.inl rfl))) (dgs_cons (dg_name 5 (pg_name (i := 5) sc_joint.nd rfl (Or.inl rfl))) (dgs_cons (dg_name 6 (pg_name (i := 6) sc_joint.nd rfl (Or.inl rfl))) (dgs_nil)))))))
    (dss_cons (ds_while PassesOwn.never (dt_lt (de_callB call_lenW T.b_len bt_len (da_cons (de_slot 5 (pv 5)) (da_nil))) (de_callB call_lenW T.b_len bt_len (da_cons (de_slot 4 (pv 4)) (da_nil)))) (dss_cons (ds_asg (de_ixW hr (de_slot 4 (pv 4)) (de_callB call_lenW T.b_len bt_len (da_cons (de_slot 5 (pv 5)) (da_nil)))) (dg_tup rfl (dgs_cons (dg_name 7 (pg_name (i := 7) sc_joint.nd rfl (Or.inl rfl))) (dgs_cons (dg_name 8 (pg_name (i := 8) sc_joint.nd rfl (Or.inl rfl))) (dgs_nil)))))
    (dss_cons (ds_set 9 sc_joint.nd (de_lstR (da_nil)))
    (dss_cons (ds_for PassesOwn.never (di_range1 T.b_range (da_cons (de_ixW hr (de_slot 0 (pv 0)) (de_int)) (da_nil))) (dg_name 10 (pg_name (i := 10) sc_joint.nd rfl (Or.inl rfl))) (dss_cons (ds_set 11 sc_joint.nd (de_tup (da_cons (de_call h_next_of hr (da_cons (de_slot 0 (pv 0)) (da_cons (de_slot 7 (pv 7)) (da_cons (de_slot 10 (pv 10)) (da_nil))))) (da_cons (de_call h_next_of hr (da_cons (de_slot 1 (pv 1)) (da_cons (de_slot 8 (pv 8)) (da_cons (de_slot 10 (pv 10)) (da_nil))))) (da_nil)))))
    (dss_cons (ds_if (dt_w (dw_and (dt_ne hr hB (de_slot 11 (pv 11)) (de_gT T.t_NOWHERE)) (dw_and1 (dt_notInW hr (de_slot 11 (pv 11)) (de_slot 3 (pv 3)))))) (dss_cons (ds_asg (de_callB call_lenW T.b_len bt_len (da_cons (de_slot 4 (pv 4)) (da_nil))) (dg_subW hr (de_slot 3 (pv 3)) (de_slot 11 (pv 11))))
    (dss_one (ds_expr (de_append (de_slot 4 (pv 4)) (da_cons (de_slot 11 (pv 11)) (da_nil)))))) (dss_nil))
    (dss_one (ds_expr (de_append (de_slot 9 (pv 9)) (da_cons (de_getW hr (de_slot 3 (pv 3)) (da_cons (de_slot 11 (pv 11)) (da_nil))) (da_nil))))))))
    (dss_cons (ds_cv (ds_expr (de_append (de_slot 5 (pv 5)) (da_cons (de_slot 9 (pv 9)) (da_nil)))))
    (dss_one (ds_expr (de_append (de_slot 6 (pv 6)) (da_cons (de_call h_is_in hr (da_cons (de_slot 2 (pv 2)) (da_cons (de_call h_ends_at hr (da_cons (de_slot 0 (pv 0)) (da_cons (de_slot 7 (pv 7)) (da_nil)))) (da_cons (de_call h_ends_at hr (da_cons (de_slot 1 (pv 1)) (da_cons (de_slot 8 (pv 8)) (da_nil)))) (da_nil))))) (da_nil))))))))))
    (dss_one (ds_cv (ds_ret (de_call h_shrunk hr (da_cons (de_ixW hr (de_slot 0 (pv 0)) (de_int)) (da_cons (de_slot 5 (pv 5)) (da_cons (de_slot 6 (pv 6)) (da_nil)))))))))
theorem mk_joint (D : DefOf K mg "joint" s_joint) (T : Txt K mg) (hB : SysB base) {k : Nat} {sp_next_of : SpD} (h_next_of : Has P w K mg base k "next_of" ["machine", "state", "at"] sp_next_of) {sp_is_in : SpD} (h_is_in : Has P w K mg base k "is_in" ["how", "first", "second"] sp_is_in) {sp_ends_at : SpD} (h_ends_at : Has P w K mg base k "ends_at" ["machine", "state"] sp_ends_at) {sp_shrunk : SpD} (h_shrunk : Has P w K mg base k "shrunk" ["letters", "rows", "ends"] sp_shrunk) {sp : SpD} (len : ∀ ds S Q, sp ds S Q → ds.length = 3) (hq : ∀ ds S Qd, sp ds S Qd → rd_joint w sp_next_of sp_is_in sp_ends_at sp_shrunk { nx := fun _ S2 => fin Qd .non S2, rt := fin Qd, bk := fun _ _ => False, ct := fun _ _ => False } (pad 12 ds) S) : Has P w K mg base (k + 1) "joint" ["one", "other", "how"] sp :=
  let ⟨f, fd, F, hm⟩ := D.ex
  .of F hm (F.binds fun _ _ _ _ _ _ us hl => match us, hl with | [_, _, _], _ => rfl) (FnD.of F sc_joint _ len (fun cdv A outer s H hr => dv_joint T hB hr h_next_of h_is_in h_ends_at h_shrunk) hq)
abbrev s_is_in : Stmt := top 25
abbrev N_is_in : List Str := ["how", "first", "second"]
theorem sc_is_in : FnScope N_is_in ["how", "first", "second"] (defScope s_is_in) := ⟨rfl, rfl, rfl, by decide +kernel, rfl, by decide +kernel, by decide +kernel⟩
def rd_is_in : TSD :=
  sSeqD (sIfD (tTst (tBin rEqD (tSlot 0) (tCD (.str "both")))) (sRetD (tAndV (tSlot 1) (tSlot 2))) (sNextD))
  (sRetD (tIfD (tTst (tBin rEqD (tSlot 0) (tCD (.str "either")))) (tOrV (tSlot 1) (tSlot 2)) (tAndV (tSlot 1) (tNotV (tSlot 2)))))
theorem dv_is_in (T : Txt K mg) (hB : SysB base) {k : Nat} {f : Addr} {cdv : Value} {A : Around} {outer : List Env} {s : Shared} {H : Hp} (hr : RoomG k (A.deeper (envOfC "is_in" (defScope s_is_in) s.heap.objs.size f cdv))) :
    DSs (cxOf CX0 P w K mg base N_is_in "is_in" (defScope s_is_in) f cdv A outer s H E0).nox (defBody s_is_in) (rd_is_in) :=
    dss_cons (ds_if (dt_eq hr hB (de_slot 0 (pv 0)) (de_gS T.c_BOTH)) (dss_one (ds_ret (de_and (de_slot 1 (pv 1)) (de_one (de_slot 2 (pv 2)))))) (dss_nil))
    (dss_one (ds_ret (de_if (dt_eq hr hB (de_slot 0 (pv 0)) (de_gS T.c_EITHER)) (de_or (de_slot 1 (pv 1)) (de_one (de_slot 2 (pv 2)))) (de_and (de_slot 1 (pv 1)) (de_one (de_not (de_slot 2 (pv 2))))))))
theorem mk_is_in (D : DefOf K mg "is_in" s_is_in) (T : Txt K mg) (hB : SysB base) {k : Nat} {sp : SpD} (len : ∀ ds S Q, sp ds S Q → ds.length = 3) (hq : ∀ ds S Qd, sp ds S Qd → rd_is_in { nx := fun _ S2 => fin Qd .non S2, rt := fin Qd, bk := fun _ _ => False, ct := fun _ _ => False } (pad 3 ds) S) : Has P w K mg base (k + 1) "is_in" ["how", "first", "second"] sp :=
  let ⟨f, fd, F, hm⟩ := D.ex
  .of F hm (F.binds fun _ _ _ _ _ _ us hl => match us, hl with | [_, _, _], _ => rfl) (FnD.of F sc_is_in _ len (fun cdv A outer s H hr => dv_is_in T hB hr) hq)
abbrev s_both : Stmt := top 26
abbrev N_both : List Str := ["one", "other"]
theorem sc_both : FnScope N_both ["one", "other"] (defScope s_both) := ⟨rfl, rfl, rfl, by decide +kernel, rfl, by decide +kernel, by decide +kernel⟩
def rd_both (sp_joint : SpD) : TSD :=
  sRetD (tCallD sp_joint (tConsD (tSlot 0) (tConsD (tSlot 1) (tConsD (tCD (.str "both")) (tNilD)))))
theorem dv_both (T : Txt K mg) (hB : SysB base) {k : Nat} {f : Addr} {cdv : Value} {A : Around} {outer : List Env} {s : Shared} {H : Hp} (hr : RoomG k (A.deeper (envOfC "both" (defScope s_both) s.heap.objs.size f cdv))) {sp_joint : SpD} (h_joint : Has P w K mg base k "joint" ["one", "other", "how"] sp_joint) :
    DSs (cxOf CX0 P w K mg base N_both "both" (defScope s_both) f cdv A outer s H E0).nox (defBody s_both) (rd_both sp_joint) :=
    dss_one (ds_ret (de_call h_joint hr (da_cons (de_slot 0 (pv 0)) (da_cons (de_slot 1 (pv 1)) (da_cons (de_gS T.c_BOTH) (da_nil))))))
theorem mk_both (D : DefOf K mg "both" s_both) (T : Txt K mg) (hB : SysB base) {k : Nat} {sp_joint : SpD} (h_joint : Has P w K mg base k "joint" ["one", "other", "how"] sp_joint) {sp : SpD} (len : ∀ ds S Q, sp ds S Q → ds.length = 2) (hq : ∀ ds S Qd, sp ds S Qd → rd_both sp_joint { nx := fun _ S2 => fin Qd .non S2, rt := fin Qd, bk := fun _ _ => False, ct := fun _ _ => False } (pad 2 ds) S) : Has P w K mg base (k + 1) "both" ["one", "other"] sp :=
  let ⟨f, fd, F, hm⟩ := D.ex
  .of F hm (F.binds fun _ _ _ _ _ _ us hl => match us, hl with | [_, _], _ => rfl) (FnD.of F sc_both _ len (fun cdv A outer s H hr => dv_both T hB hr h_joint) hq)
abbrev s_either : Stmt := top 27
abbrev N_either : List Str := ["one", "other"]
theorem sc_either : FnScope N_either ["one", "other"] (defScope s_either) := ⟨rfl, rfl, rfl, by decide +kernel, rfl, by decide +kernel, by decide +kernel⟩
def rd_either (sp_joint : SpD) : TSD :=
  sRetD (tCallD sp_joint (tConsD (tSlot 0) (tConsD (tSlot 1) (tConsD (tCD (.str "either")) (tNilD)))))
theorem dv_either (T : Txt K mg) (hB : SysB base) {k : Nat} {f : Addr} {cdv : Value} {A : Around} {outer : List Env} {s : Shared} {H : Hp} (hr : RoomG k (A.deeper (envOfC "either" (defScope s_either) s.heap.objs.size f cdv))) {sp_joint : SpD} (h_joint : Has P w K mg base k "joint" ["one", "other", "how"] sp_joint) :
    DSs (cxOf CX0 P w K mg base N_either "either" (defScope s_either) f cdv A outer s H E0).nox (defBody s_either) (rd_either sp_joint) :=
    dss_one (ds_ret (de_call h_joint hr (da_cons (de_slot 0 (pv 0)) (da_cons (de_slot 1 (pv 1)) (da_cons (de_gS T.c_EITHER) (da_nil))))))
theorem mk_either (D : DefOf K mg "either" s_either) (T : Txt K mg) (hB : SysB base) {k : Nat} {sp_joint : SpD} (h_joint : Has P w K mg base k "joint" ["one", "other", "how"] sp_joint) {sp : SpD} (len : ∀ ds S Q, sp ds S Q → ds.length = 2) (hq : ∀ ds S Qd, sp ds S Qd → rd_either sp_joint { nx := fun _ S2 => fin Qd .non S2, rt := fin Qd, bk := fun _ _ => False, ct := fun _ _ => False } (pad 2 ds) S) : Has P w K mg base (k + 1) "either" ["one", "other"] sp :=
  let ⟨f, fd, F, hm⟩ := D.ex
  .of F hm (F.binds fun _ _ _ _ _ _ us hl => match us, hl with | [_, _], _ => rfl) (FnD.of F sc_either _ len (fun cdv A outer s H hr => dv_either T hB hr h_joint) hq)
abbrev s_less : Stmt := top 28
abbrev N_less : List Str := ["one", "other"]
theorem sc_less : FnScope N_less ["one", "other"] (defScope s_less) := ⟨rfl, rfl, rfl, by decide +kernel, rfl, by decide +kernel, by decide +kernel⟩
def rd_less (sp_joint : SpD) : TSD :=
  sRetD (tCallD sp_joint (tConsD (tSlot 0) (tConsD (tSlot 1) (tConsD (tCD (.str "less")) (tNilD)))))
theorem dv_less (T : Txt K mg) (hB : SysB base) {k : Nat} {f : Addr} {cdv : Value} {A : Around} {outer : List Env} {s : Shared} {H : Hp} (hr : RoomG k (A.deeper (envOfC "less" (defScope s_less) s.heap.objs.size f cdv))) {sp_joint : SpD} (h_joint : Has P w K mg base k "joint" ["one", "other", "how"] sp_joint) :
    DSs (cxOf CX0 P w K mg base N_less "less" (defScope s_less) f cdv A outer s H E0).nox (defBody s_less) (rd_less sp_joint) :=
    dss_one (ds_ret (de_call h_joint hr (da_cons (de_slot 0 (pv 0)) (da_cons (de_slot 1 (pv 1)) (da_cons (de_gS T.c_LESS) (da_nil))))))
theorem mk_less (D : DefOf K mg "less" s_less) (T : Txt K mg) (hB : SysB base) {k : Nat} {sp_joint : SpD} (h_joint : Has P w K mg base k "joint" ["one", "other", "how"] sp_joint) {sp : SpD} (len : ∀ ds S Q, sp ds S Q → ds.length = 2) (hq : ∀ ds S Qd, sp ds S Qd → rd_less sp_joint { nx := fun _ S2 => fin Qd .non S2, rt := fin Qd, bk := fun _ _ => False, ct := fun _ _ => False } (pad 2 ds) S) : Has P w K mg base (k + 1) "less" ["one", "other"] sp :=
  let ⟨f, fd, F, hm⟩ := D.ex
  .of F hm (F.binds fun _ _ _ _ _ _ us hl => match us, hl with | [_, _], _ => rfl) (FnD.of F sc_less _ len (fun cdv A outer s H hr => dv_less T hB hr h_joint) hq)
abbrev s_apart : Stmt := top 29
abbrev N_apart : List Str := ["one", "other", "known", "waiting", "at", "word", "state", "second", "letter", "place", "pair"]
theorem sc_apart : FnScope N_apart ["one", "other"] (defScope s_apart) := ⟨rfl, rfl, rfl, by decide +kernel, rfl, by decide +kernel, by decide +kernel⟩
def rd_apart (w : World) (sp_ends_at : SpD) (sp_next_of : SpD) : TSD :=
  sSeqD (sPar3 2 3 4 (tConsD (tDisp1T w (tTupD (tConsD (tCD (.int 0)) (tConsD (tCD (.int 0)) (tNilD)))) (tCD (.bl true))) (tConsD (tLstR (tConsD (tTupD (tConsD (tCD (.str "")) (tConsD (tCD (.int 0)) (tConsD (tCD (.int 0)) (tNilD))))) (tNilD))) (tConsD (tCD (.int 0)) (tNilD)))))
  (sSeqD (sWhileD (tTst (tBin (rCmpI fLt) (tSlot 4) (tCallD (rLenW w) (tConsD (tSlot 3) (tNilD))))) (sSeqD (sAsgD (tBin (rIxW w) (tSlot 3) (tSlot 4)) (gTupD 3 (gConsD (gNameD 5) (gConsD (gNameD 6) (gConsD (gNameD 7) (gNilD))))))
  (sSeqD (sIfD (tTst (tBin rNeD (tCallD sp_ends_at (tConsD (tSlot 0) (tConsD (tSlot 6) (tNilD)))) (tCallD sp_ends_at (tConsD (tSlot 1) (tConsD (tSlot 7) (tNilD)))))) (sRetD (tSlot 5)) (sNextD))
  (sSeqD (sForD (iAnyD (tSlD (tCD (.str "abc")) (oNone) (oSome (tBin (rIxW w) (tSlot 0) (tCD (.int 0)))))) (gNameD 8) (sSeqD (sAsgD (tMethS rSixD (tCD (.str "abc")) (tSlot 8)) (gNameD 9))
  (sSeqD (sAsgD (tTupD (tConsD (tCallD sp_next_of (tConsD (tSlot 0) (tConsD (tSlot 6) (tConsD (tSlot 9) (tNilD))))) (tConsD (tCallD sp_next_of (tConsD (tSlot 1) (tConsD (tSlot 7) (tConsD (tSlot 9) (tNilD))))) (tNilD)))) (gNameD 10))
  (sIfD (tAndD (tTst (tBin rNeD (tSlot 10) (tCD (.tup [.non, .non])))) (tTst (tBin (rInW w true) (tSlot 10) (tSlot 2)))) (sSeqD (sAsgD (tCD (.bl true)) (gSubW w (tSlot 2) (tSlot 10)))
  (sDropD (tMethL rAppD (tSlot 3) (tConsD (tBin rAddD (tTupD (tConsD (tBin rAddD (tSlot 5) (tSlot 8)) (tNilD))) (tSlot 10)) (tNilD))))) (sNextD)))))
  (sAsgD (tBin rAddD (tSlot 4) (tCD (.int 1))) (gNameD 4))))))
  (sRetD (tCD .non)))
theorem dv_apart (T : Txt K mg) (hB : SysB base) {k : Nat} {f : Addr} {cdv : Value} {A : Around} {outer : List Env} {s : Shared} {H : Hp} (hr : RoomG k (A.deeper (envOfC "apart" (defScope s_apart) s.heap.objs.size f cdv))) {sp_ends_at : SpD} (h_ends_at : Has P w K mg base k "ends_at" ["machine", "state"] sp_ends_at) {sp_next_of : SpD} (h_next_of : Has P w K mg base k "next_of" ["machine", "state", "at"] sp_next_of) :
    DSs (cxOf CX0 P w K mg base N_apart "apart" (defScope s_apart) f cdv A outer s H E0).nox (defBody s_apart) (rd_apart w sp_ends_at sp_next_of) :=
    dss_cons (ds_par3 2 3 4 sc_apart.nd (da_cons (de_disp1 hr (de_tup (da_cons (de_int) (da_cons (de_int) (da_nil)))) (de_bl)) (da_cons (de_lstR (da_cons (de_tup (da_cons (de_str) (da_cons (de_int) (da_cons (de_int) (da_nil))))) (da_nil))) (da_cons (de_int) (da_nil)))))
    (dss_cons (ds_while PassesOwn.never (dt_lt (de_slot 4 (pv 4)) (de_callB call_lenW T.b_len bt_len (da_cons (de_slot 3 (pv 3)) (da_nil)))) (dss_cons (ds_asg (de_ixW hr (de_slot 3 (pv 3)) (de_slot 4 (pv 4))) (dg_tup rfl (dgs_cons (dg_name 5 (pg_name (i := 5) sc_apart.nd rfl (Or.inl rfl))) (dgs_cons (dg_name 6 (pg_name (i := 6) sc_apart.nd rfl (Or.inl rfl))) (dgs_cons (dg_name 7 (pg_name (i := 7) sc_apart.nd rfl (Or.inl rfl))) (dgs_nil))))))
    (dss_cons (ds_if (dt_ne hr hB (de_call h_ends_at hr (da_cons (de_slot 0 (pv 0)) (da_cons (de_slot 6 (pv 6)) (da_nil)))) (de_call h_ends_at hr (da_cons (de_slot 1 (pv 1)) (da_cons (de_slot 7 (pv 7)) (da_nil))))) (dss_one (ds_ret (de_slot 5 (pv 5)))) (dss_nil))
    (dss_cons (ds_for PassesOwn.never (di_any (de_slice (de_gS T.c_LETTERS) (do_none) (do_some (de_ixW hr (de_slot 0 (pv 0)) (de_int))))) (dg_name 8 (pg_name (i := 8) sc_apart.nd rfl (Or.inl rfl))) (dss_cons (ds_set 9 sc_apart.nd (de_sindex (de_gS T.c_LETTERS) (de_slot 8 (pv 8))))
    (dss_cons (ds_set 10 sc_apart.nd (de_tup (da_cons (de_call h_next_of hr (da_cons (de_slot 0 (pv 0)) (da_cons (de_slot 6 (pv 6)) (da_cons (de_slot 9 (pv 9)) (da_nil))))) (da_cons (de_call h_next_of hr (da_cons (de_slot 1 (pv 1)) (da_cons (de_slot 7 (pv 7)) (da_cons (de_slot 9 (pv 9)) (da_nil))))) (da_nil)))))
    (dss_one (ds_if (dt_w (dw_and (dt_ne hr hB (de_slot 10 (pv 10)) (de_gT T.t_NOWHERE)) (dw_and1 (dt_notInW hr (de_slot 10 (pv 10)) (de_slot 2 (pv 2)))))) (dss_cons (ds_asg (de_bl) (dg_subW hr (de_slot 2 (pv 2)) (de_slot 10 (pv 10))))
    (dss_one (ds_expr (de_append (de_slot 3 (pv 3)) (da_cons (de_add (de_tup (da_cons (de_add (de_slot 5 (pv 5)) (de_slot 8 (pv 8))) (da_nil))) (de_slot 10 (pv 10))) (da_nil)))))) (dss_nil))))))
    (dss_one (ds_set 4 sc_apart.nd (de_add (de_slot 4 (pv 4)) (de_int))))))))
    (dss_one (ds_ret (de_non))))
theorem mk_apart (D : DefOf K mg "apart" s_apart) (T : Txt K mg) (hB : SysB base) {k : Nat} {sp_ends_at : SpD} (h_ends_at : Has P w K mg base k "ends_at" ["machine", "state"] sp_ends_at) {sp_next_of : SpD} (h_next_of : Has P w K mg base k "next_of" ["machine", "state", "at"] sp_next_of) {sp : SpD} (len : ∀ ds S Q, sp ds S Q → ds.length = 2) (hq : ∀ ds S Qd, sp ds S Qd → rd_apart w sp_ends_at sp_next_of { nx := fun _ S2 => fin Qd .non S2, rt := fin Qd, bk := fun _ _ => False, ct := fun _ _ => False } (pad 11 ds) S) : Has P w K mg base (k + 1) "apart" ["one", "other"] sp :=
  let ⟨f, fd, F, hm⟩ := D.ex
  .of F hm (F.binds fun _ _ _ _ _ _ us hl => match us, hl with | [_, _], _ => rfl) (FnD.of F sc_apart _ len (fun cdv A outer s H hr => dv_apart T hB hr h_ends_at h_next_of) hq)
abbrev s__law_deck : Stmt := top 31
abbrev N__law_deck : List Str := ["_law_script", "_law_cell"]
theorem sc__law_deck : FnScope N__law_deck ["_law_script"] (defScope s__law_deck) := ⟨rfl, rfl, rfl, by decide +kernel, rfl, by decide +kernel, by decide +kernel⟩
def rd__law_deck : TSD :=
  sRetD (tLstR (tConsD (tLcR (iSeqD (tSlD (tSlot 0) (oNone) (oSome (tCD (.int 63))))) (gNameD 1) (tYesD) (tCallD rAbsD (tConsD (tSlot 1) (tNilD))) [1]) (tConsD (tCD (.int 0)) (tNilD))))
theorem dv__law_deck (T : Txt K mg) (hB : SysB base) {k : Nat} {f : Addr} {cdv : Value} {A : Around} {outer : List Env} {s : Shared} {H : Hp} (hr : RoomG k (A.deeper (envOfC "_law_deck" (defScope s__law_deck) s.heap.objs.size f cdv))) :
    DSs (cxOf CX0 P w K mg base N__law_deck "_law_deck" (defScope s__law_deck) f cdv A outer s H E0).nox (defBody s__law_deck) (rd__law_deck) :=
    dss_one (ds_ret (de_lstR (da_cons (de_lcR (own := [("_law_cell", 1)]) sc__law_deck.nd (di_seq (de_slice (de_slot 0 (pv 0)) (do_none) (do_some (de_int)))) (blkOk_by (own := [("_law_cell", 1)]) (N := N__law_deck) (sc := defScope s__law_deck) (by decide +kernel)) (fun _ _ _ _ _ => dgw_name 1 (by decide) (pg_name (i := 1) sc__law_deck.nd rfl (Or.inl rfl))) (fun _ _ _ _ _ => dts_nil) (fun _ _ _ _ _ => de_callB call_absRD T.b_abs bt_abs (da_cons (de_slot 1 (pv 1)) (da_nil)))) (da_cons (de_int) (da_nil)))))
theorem mk__law_deck (D : DefOf K mg "_law_deck" s__law_deck) (T : Txt K mg) (hB : SysB base) {k : Nat} (ok : DeckOk rd__law_deck 2) : Has P w K mg base (k + 1) "_law_deck" ["_law_script"] spDeck :=
  let ⟨f, fd, F, hm⟩ := D.ex
  .of F hm (F.binds fun _ _ _ _ _ _ us hl => match us, hl with | [_], _ => rfl) (FnD.deck F sc__law_deck _ (fun cdv A outer s H hr => dv__law_deck T hB hr) ok)
abbrev s__law_draw : Stmt := top 32
abbrev N__law_draw : List Str := ["_law_deck_here", "_law_many", "_law_cell", "_law_at", "_law_mixed"]
theorem sc__law_draw : FnScope N__law_draw ["_law_deck_here", "_law_many"] (defScope s__law_draw) := ⟨rfl, rfl, rfl, by decide +kernel, rfl, by decide +kernel, by decide +kernel⟩
def rd__law_draw : TSD :=
  sSeqD (sAsgD (tBin rAddD (tBin rIxD (tSlot 0) (tCD (.int 1))) (tCD (.int 1))) (gSubD (tSlot 0) (tCD (.int 1))))
  (sSeqD (sAsgD (tTupD (tConsD (tCD (.int 0)) (tConsD (tUnD rNeg (tCD (.int 1))) (tNilD)))) (gTupD 2 (gConsD (gNameD 2) (gConsD (gNameD 3) (gNilD)))))
  (sSeqD (sIfD (tTst (tBin (rCmpI fGt) (tCallD rLenD (tConsD (tBin rIxD (tSlot 0) (tCD (.int 0))) (tNilD))) (tCD (.int 0)))) (sSeqD (sAsgD (tBin rModD (tCallD rIntD (tConsD (tBin rIxD (tSlot 0) (tCD (.int 1))) (tNilD))) (tCallD rLenD (tConsD (tBin rIxD (tSlot 0) (tCD (.int 0))) (tNilD)))) (gNameD 3))
  (sAsgD (tBin rIxD (tBin rIxD (tSlot 0) (tCD (.int 0))) (tSlot 3)) (gNameD 2))) (sNextD))
  (sSeqD (sIfD (tTst (tBin (rCmpI fGe) (tSlot 2) (tBin rPowD (tCD (.int 10)) (tCD (.int 18))))) (sSeqD (sAsgD (tBin rFdivD (tCallD rIntD (tConsD (tSlot 2) (tNilD))) (tSlot 1)) (gSubD (tBin rIxD (tSlot 0) (tCD (.int 0))) (tSlot 3)))
  (sRetD (tBin rModD (tCallD rIntD (tConsD (tSlot 2) (tNilD))) (tSlot 1)))) (sNextD))
  (sSeqD (sAsgD (tBin rAddD (tBin rAddD (tBin rModD (tCallD rIntD (tConsD (tSlot 2) (tNilD))) (tCD (.int 2147483563))) (tBin rMulD (tCD (.int 8117)) (tBin rIxD (tSlot 0) (tCD (.int 1))))) (tCD (.int 3))) (gNameD 4))
  (sRetD (tBin rModD (tCallD rIntD (tConsD (tBin rModD (tCallD rIntD (tConsD (tBin rPowD (tSlot 4) (tCD (.int 5))) (tNilD))) (tCD (.int 2147483629))) (tNilD))) (tSlot 1)))))))
theorem dv__law_draw (T : Txt K mg) (hB : SysB base) {k : Nat} {f : Addr} {cdv : Value} {A : Around} {outer : List Env} {s : Shared} {H : Hp} (hr : RoomG k (A.deeper (envOfC "_law_draw" (defScope s__law_draw) s.heap.objs.size f cdv))) :
    DSs (cxOf CX0 P w K mg base N__law_draw "_law_draw" (defScope s__law_draw) f cdv A outer s H E0).nox (defBody s__law_draw) (rd__law_draw) :=
    dss_cons (ds_asg (de_add (de_ix (de_slot 0 (pv 0)) (de_int)) (de_int)) (dg_sub (de_slot 0 (pv 0)) (de_int)))
    (dss_cons (ds_asg (de_tup (da_cons (de_int) (da_cons (de_neg (de_int)) (da_nil)))) (dg_tup rfl (dgs_cons (dg_name 2 (pg_name (i := 2) sc__law_draw.nd rfl (Or.inl rfl))) (dgs_cons (dg_name 3 (pg_name (i := 3) sc__law_draw.nd rfl (Or.inl rfl))) (dgs_nil)))))
    (dss_cons (ds_if (dt_gt (de_callB call_lenRD T.b_len bt_len (da_cons (de_ix (de_slot 0 (pv 0)) (de_int)) (da_nil))) (de_int)) (dss_cons (ds_set 3 sc__law_draw.nd (de_mod (de_callTy call_intRD T.b_int bt_int (da_cons (de_ix (de_slot 0 (pv 0)) (de_int)) (da_nil))) (de_callB call_lenRD T.b_len bt_len (da_cons (de_ix (de_slot 0 (pv 0)) (de_int)) (da_nil)))))
    (dss_one (ds_set 2 sc__law_draw.nd (de_ix (de_ix (de_slot 0 (pv 0)) (de_int)) (de_slot 3 (pv 3)))))) (dss_nil))
    (dss_cons (ds_if (dt_ge (de_slot 2 (pv 2)) (de_pow (de_int) (de_int))) (dss_cons (ds_asg (de_fdiv (de_callTy call_intRD T.b_int bt_int (da_cons (de_slot 2 (pv 2)) (da_nil))) (de_slot 1 (pv 1))) (dg_sub (de_ix (de_slot 0 (pv 0)) (de_int)) (de_slot 3 (pv 3))))
    (dss_one (ds_ret (de_mod (de_callTy call_intRD T.b_int bt_int (da_cons (de_slot 2 (pv 2)) (da_nil))) (de_slot 1 (pv 1)))))) (dss_nil))
    (dss_cons (ds_set 4 sc__law_draw.nd (de_add (de_add (de_mod (de_callTy call_intRD T.b_int bt_int (da_cons (de_slot 2 (pv 2)) (da_nil))) (de_int)) (de_mul (de_int) (de_ix (de_slot 0 (pv 0)) (de_int)))) (de_int)))
    (dss_one (ds_ret (de_mod (de_callTy call_intRD T.b_int bt_int (da_cons (de_mod (de_callTy call_intRD T.b_int bt_int (da_cons (de_pow (de_slot 4 (pv 4)) (de_int)) (da_nil))) (de_int)) (da_nil))) (de_slot 1 (pv 1)))))))))
theorem mk__law_draw (D : DefOf K mg "_law_draw" s__law_draw) (T : Txt K mg) (hB : SysB base) {k : Nat} (ok : DrawOk rd__law_draw 5) : Has P w K mg base (k + 1) "_law_draw" ["_law_deck_here", "_law_many"] spDraw :=
  let ⟨f, fd, F, hm⟩ := D.ex
  .of F hm (F.binds fun _ _ _ _ _ _ us hl => match us, hl with | [_, _], _ => rfl) (FnD.draw F sc__law_draw _ (fun cdv A outer s H hr => dv__law_draw T hB hr) ok)
abbrev s__law_one : Stmt := top 33
abbrev N__law_one : List Str := ["_law_deck_here", "_law_items"]
theorem sc__law_one : FnScope N__law_one ["_law_deck_here", "_law_items"] (defScope s__law_one) := ⟨rfl, rfl, rfl, by decide +kernel, rfl, by decide +kernel, by decide +kernel⟩
def rd__law_one (sp__law_draw : SpD) : TSD :=
  sRetD (tBin rIxD (tSlot 1) (tCallD sp__law_draw (tConsD (tSlot 0) (tConsD (tCallD rLenD (tConsD (tSlot 1) (tNilD))) (tNilD)))))
theorem dv__law_one (T : Txt K mg) (hB : SysB base) {k : Nat} {f : Addr} {cdv : Value} {A : Around} {outer : List Env} {s : Shared} {H : Hp} (hr : RoomG k (A.deeper (envOfC "_law_one" (defScope s__law_one) s.heap.objs.size f cdv))) {sp__law_draw : SpD} (h__law_draw : Has P w K mg base k "_law_draw" ["_law_deck_here", "_law_many"] sp__law_draw) :
    DSs (cxOf CX0 P w K mg base N__law_one "_law_one" (defScope s__law_one) f cdv A outer s H E0).nox (defBody s__law_one) (rd__law_one sp__law_draw) :=
    dss_one (ds_ret (de_ix (de_slot 1 (pv 1)) (de_call h__law_draw hr (da_cons (de_slot 0 (pv 0)) (da_cons (de_callB call_lenRD T.b_len bt_len (da_cons (de_slot 1 (pv 1)) (da_nil))) (da_nil))))))
theorem mk__law_one (D : DefOf K mg "_law_one" s__law_one) (T : Txt K mg) (hB : SysB base) {k : Nat} {sp__law_draw : SpD} (h__law_draw : Has P w K mg base k "_law_draw" ["_law_deck_here", "_law_many"] sp__law_draw) {sp : SpD} (len : ∀ ds S Q, sp ds S Q → ds.length = 2) (hq : ∀ ds S Qd, sp ds S Qd → rd__law_one sp__law_draw { nx := fun _ S2 => fin Qd .non S2, rt := fin Qd, bk := fun _ _ => False, ct := fun _ _ => False } (pad 2 ds) S) : Has P w K mg base (k + 1) "_law_one" ["_law_deck_here", "_law_items"] sp :=
  let ⟨f, fd, F, hm⟩ := D.ex
  .of F hm (F.binds fun _ _ _ _ _ _ us hl => match us, hl with | [_, _], _ => rfl) (FnD.of F sc__law_one _ len (fun cdv A outer s H hr => dv__law_one T hB hr h__law_draw) hq)
abbrev s__law_machine : Stmt := top 34
abbrev N__law_machine : List Str := ["_law_deck_here", "_law_letters", "_law_most", "_law_many", "_law_way", "_law_rows", "_law_state", "_law_further", "_law_items", "_law_often", "_law_at", "_law_item"]
theorem sc__law_machine : FnScope N__law_machine ["_law_deck_here", "_law_letters", "_law_most"] (defScope s__law_machine) := ⟨rfl, rfl, rfl, by decide +kernel, rfl, by decide +kernel, by decide +kernel⟩
def rd__law_machine (sp__law_draw : SpD) (sp__law_one : SpD) : TSD :=
  sSeqD (sAsgD (tTupD (tConsD (tBin rAddD (tCD (.int 1)) (tCallD sp__law_draw (tConsD (tSlot 0) (tConsD (tSlot 2) (tNilD))))) (tConsD (tCallD sp__law_draw (tConsD (tSlot 0) (tConsD (tCD (.int 5)) (tNilD)))) (tConsD (tLstR (tNilD)) (tNilD))))) (gTupD 3 (gConsD (gNameD 3) (gConsD (gNameD 4) (gConsD (gNameD 5) (gNilD))))))
  (sSeqD (sForD (iRng1D (tConsD (tSlot 3) (tNilD))) (gNameD 6) (sIfD (tTst (tBin rEqD (tSlot 4) (tCD (.int 0)))) (sDropD (tMethL rAppD (tSlot 5) (tConsD (tCallD rTupleD (tConsD (tLcV (iRng1D (tConsD (tSlot 1) (tNilD))) (gNameD 10) (tYesD) (tBin rModD (tCallD rIntD (tConsD (tBin rAddD (tSlot 6) (tCD (.int 1))) (tNilD))) (tSlot 3)) [10]) (tNilD))) (tNilD)))) (sIfD (tTst (tBin rEqD (tSlot 4) (tCD (.int 1)))) (sSeqD (sAsgD (tLstV (tConsD (tIfD (tTst (tBin (rCmpI fLt) (tBin rAddD (tSlot 6) (tCD (.int 1))) (tSlot 3))) (tBin rAddD (tSlot 6) (tCD (.int 1))) (tCD .non)) (tConsD (tSlot 6) (tConsD (tCD .non) (tNilD))))) (gNameD 7))
  (sDropD (tMethL rAppD (tSlot 5) (tConsD (tCallD rTupleD (tConsD (tLcV (iRng1D (tConsD (tSlot 1) (tNilD))) (gNameD 10) (tYesD) (tCallD sp__law_one (tConsD (tSlot 0) (tConsD (tSlot 7) (tNilD)))) [10]) (tNilD))) (tNilD))))) (sSeqD (sAsgD (tLcV (iRng1D (tConsD (tSlot 1) (tNilD))) (gNameD 10) (tYesD) (tCallD sp__law_draw (tConsD (tSlot 0) (tConsD (tSlot 3) (tNilD)))) [10]) (gNameD 8))
  (sDropD (tMethL rAppD (tSlot 5) (tConsD (tCallD rTupleD (tConsD (tLcV (iAnyD (tSlot 8)) (gNameD 11) (tYesD) (tIfD (tTst (tBin rEqD (tCallD sp__law_draw (tConsD (tSlot 0) (tConsD (tBin rAddD (tCD (.int 3)) (tSlot 4)) (tNilD)))) (tCD (.int 0)))) (tCD .non) (tSlot 11)) [11]) (tNilD))) (tNilD))))))))
  (sSeqD (sAsgD (tCallD sp__law_one (tConsD (tSlot 0) (tConsD (tLstV (tConsD (tCD (.int 2)) (tConsD (tCD (.int 2)) (tConsD (tCD (.int 3)) (tConsD (tCD (.int 5)) (tNilD)))))) (tNilD)))) (gNameD 9))
  (sRetD (tTupD (tConsD (tSlot 1) (tConsD (tCallD rTupleD (tConsD (tSlot 5) (tNilD))) (tConsD (tCallD rTupleD (tConsD (tLcV (iRng1D (tConsD (tSlot 3) (tNilD))) (gNameD 6) (tYesD) (tBin rEqD (tCallD sp__law_draw (tConsD (tSlot 0) (tConsD (tSlot 9) (tNilD)))) (tCD (.int 0))) [6]) (tNilD))) (tNilD))))))))
theorem dv__law_machine (T : Txt K mg) (hB : SysB base) {k : Nat} {f : Addr} {cdv : Value} {A : Around} {outer : List Env} {s : Shared} {H : Hp} (hr : RoomG k (A.deeper (envOfC "_law_machine" (defScope s__law_machine) s.heap.objs.size f cdv))) {sp__law_draw : SpD} (h__law_draw : Has P w K mg base k "_law_draw" ["_law_deck_here", "_law_many"] sp__law_draw) {sp__law_one : SpD} (h__law_one : Has P w K mg base k "_law_one" ["_law_deck_here", "_law_items"] sp__law_one) :
    DSs (cxOf CX0 P w K mg base N__law_machine "_law_machine" (defScope s__law_machine) f cdv A outer s H E0).nox (defBody s__law_machine) (rd__law_machine sp__law_draw sp__law_one) :=
    dss_cons (ds_asg (de_tup (da_cons (de_add (de_int) (de_call h__law_draw hr (da_cons (de_slot 0 (pv 0)) (da_cons (de_slot 2 (pv 2)) (da_nil))))) (da_cons (de_call h__law_draw hr (da_cons (de_slot 0 (pv 0)) (da_cons (de_int) (da_nil)))) (da_cons (de_lstR (da_nil)) (da_nil))))) (dg_tup rfl (dgs_cons (dg_name 3 (pg_name (i := 3) sc__law_machine.nd rfl (Or.inr rfl))) (dgs_cons (dg_name 4 (pg_name (i := 4) sc__law_machine.nd rfl (Or.inr rfl))) (dgs_cons (dg_name 5 (pg_name (i := 5) sc__law_machine.nd rfl (Or.inl rfl))) (dgs_nil))))))
    (dss_cons (ds_for PassesOwn.never (di_range1 T.b_range (da_cons (de_slot 3 (pv 3)) (da_nil))) (dg_name 6 (pg_name (i := 6) sc__law_machine.nd rfl (Or.inr rfl))) (dss_one (ds_if (dt_eq hr hB (de_slot 4 (pv 4)) (de_int)) (dss_one (ds_expr (de_append (de_slot 5 (pv 5)) (da_cons (de_callTy call_tupleRD T.b_tuple bt_tuple (da_cons (de_lcV (own := [("_law_at", 10)]) sc__law_machine.nd (di_range1 T.b_range (da_cons (de_slot 1 (pv 1)) (da_nil))) (blkOk_by (own := [("_law_at", 10)]) (N := N__law_machine) (sc := defScope s__law_machine) (by decide +kernel)) (fun _ _ _ _ _ => dgw_name 10 (by decide) (pg_name (i := 10) sc__law_machine.nd rfl (Or.inl rfl))) (fun _ _ _ _ _ => dts_nil) (fun _ _ _ _ _ => de_mod (de_callTy call_intRD T.b_int bt_int (da_cons (de_add (de_slot 6 (pv 6)) (de_int)) (da_nil))) (de_slot 3 (pv 3)))) (da_nil))) (da_nil))))) (dss_one (ds_if (dt_eq hr hB (de_slot 4 (pv 4)) (de_int)) (dss_cons (ds_set 7 sc__law_machine.nd (de_lstV (da_cons (de_if (dt_lt (de_add (de_slot 6 (pv 6)) (de_int)) (de_slot 3 (pv 3))) (de_add (de_slot 6 (pv 6)) (de_int)) (de_non)) (da_cons (de_slot 6 (pv 6)) (da_cons (de_non) (da_nil))))))
    (dss_one (ds_expr (de_append (de_slot 5 (pv 5)) (da_cons (de_callTy call_tupleRD T.b_tuple bt_tuple (da_cons (de_lcV (own := [("_law_at", 10)]) sc__law_machine.nd (di_range1 T.b_range (da_cons (de_slot 1 (pv 1)) (da_nil))) (blkOk_by (own := [("_law_at", 10)]) (N := N__law_machine) (sc := defScope s__law_machine) (by decide +kernel)) (fun _ _ _ _ _ => dgw_name 10 (by decide) (pg_name (i := 10) sc__law_machine.nd rfl (Or.inl rfl))) (fun _ _ _ _ _ => dts_nil) (fun _ _ _ _ _ => de_call h__law_one hr (da_cons (de_slot 0 (pv 0)) (da_cons (de_slot 7 (pv 7)) (da_nil))))) (da_nil))) (da_nil)))))) (dss_cons (ds_setLcV 8 (own := [("_law_at", 10)]) sc__law_machine.nd (di_range1 T.b_range (da_cons (de_slot 1 (pv 1)) (da_nil))) (blkOk_by (own := [("_law_at", 10)]) (N := N__law_machine) (sc := defScope s__law_machine) (by decide +kernel)) (fun _ _ _ _ _ => dgw_name 10 (by decide) (pg_name (i := 10) sc__law_machine.nd rfl (Or.inl rfl))) (fun _ _ _ _ _ => dts_nil) (fun _ _ _ _ _ => de_call h__law_draw hr (da_cons (de_slot 0 (pv 0)) (da_cons (de_slot 3 (pv 3)) (da_nil)))))
    (dss_one (ds_expr (de_append (de_slot 5 (pv 5)) (da_cons (de_callTy call_tupleRD T.b_tuple bt_tuple (da_cons (de_lcV (own := [("_law_item", 11)]) sc__law_machine.nd (di_any (de_slot 8 (pv 8))) (blkOk_by (own := [("_law_item", 11)]) (N := N__law_machine) (sc := defScope s__law_machine) (by decide +kernel)) (fun _ _ _ _ _ => dgw_name 11 (by decide) (pg_name (i := 11) sc__law_machine.nd rfl (Or.inl rfl))) (fun _ _ _ _ _ => dts_nil) (fun _ _ _ _ _ => de_if (dt_eq hr hB (de_call h__law_draw hr (da_cons (de_slot 0 (pv 0)) (da_cons (de_add (de_int) (de_slot 4 (pv 4))) (da_nil)))) (de_int)) (de_non) (de_slot 11 (pv 11)))) (da_nil))) (da_nil)))))))))))
    (dss_cons (ds_set 9 sc__law_machine.nd (de_call h__law_one hr (da_cons (de_slot 0 (pv 0)) (da_cons (de_lstV (da_cons (de_int) (da_cons (de_int) (da_cons (de_int) (da_cons (de_int) (da_nil)))))) (da_nil)))))
    (dss_one (ds_ret (de_tup (da_cons (de_slot 1 (pv 1)) (da_cons (de_callTy call_tupleRD T.b_tuple bt_tuple (da_cons (de_slot 5 (pv 5)) (da_nil))) (da_cons (de_callTy call_tupleRD T.b_tuple bt_tuple (da_cons (de_lcV (own := [("_law_state", 6)]) sc__law_machine.nd (di_range1 T.b_range (da_cons (de_slot 3 (pv 3)) (da_nil))) (blkOk_by (own := [("_law_state", 6)]) (N := N__law_machine) (sc := defScope s__law_machine) (by decide +kernel)) (fun _ _ _ _ _ => dgw_name 6 (by decide) (pg_name (i := 6) sc__law_machine.nd rfl (Or.inl rfl))) (fun _ _ _ _ _ => dts_nil) (fun _ _ _ _ _ => de_eq hr hB (de_call h__law_draw hr (da_cons (de_slot 0 (pv 0)) (da_cons (de_slot 9 (pv 9)) (da_nil)))) (de_int))) (da_nil))) (da_nil)))))))))
theorem mk__law_machine (D : DefOf K mg "_law_machine" s__law_machine) (T : Txt K mg) (hB : SysB base) {k : Nat} {sp__law_draw : SpD} (h__law_draw : Has P w K mg base k "_law_draw" ["_law_deck_here", "_law_many"] sp__law_draw) {sp__law_one : SpD} (h__law_one : Has P w K mg base k "_law_one" ["_law_deck_here", "_law_items"] sp__law_one) {sp : SpD} (len : ∀ ds S Q, sp ds S Q → ds.length = 3) (hq : ∀ ds S Qd, sp ds S Qd → rd__law_machine sp__law_draw sp__law_one { nx := fun _ S2 => fin Qd .non S2, rt := fin Qd, bk := fun _ _ => False, ct := fun _ _ => False } (pad 12 ds) S) : Has P w K mg base (k + 1) "_law_machine" ["_law_deck_here", "_law_letters", "_law_most"] sp :=
  let ⟨f, fd, F, hm⟩ := D.ex
  .of F hm (F.binds fun _ _ _ _ _ _ us hl => match us, hl with | [_, _, _], _ => rfl) (FnD.of F sc__law_machine _ len (fun cdv A outer s H hr => dv__law_machine T hB hr h__law_draw h__law_one) hq)
abbrev s__law_sets_right : Stmt := top 35
abbrev N__law_sets_right : List Str := ["_law_one_here", "_law_other", "_law_third", "_law_every"]
theorem sc__law_sets_right : FnScope N__law_sets_right ["_law_one_here", "_law_other", "_law_third", "_law_every"] (defScope s__law_sets_right) := ⟨rfl, rfl, rfl, by decide +kernel, rfl, by decide +kernel, by decide +kernel⟩
def rd__law_sets_right (sp_both : SpD) (sp_either : SpD) (sp_less : SpD) (sp_smallest : SpD) (sp_size : SpD) : TSD :=
  sSeqD (sIfD (tOrD (tTst (tBin rNeD (tCallD sp_both (tConsD (tSlot 0) (tConsD (tSlot 1) (tNilD)))) (tCallD sp_both (tConsD (tSlot 1) (tConsD (tSlot 0) (tNilD)))))) (tTst (tBin rNeD (tCallD sp_either (tConsD (tSlot 0) (tConsD (tSlot 1) (tNilD)))) (tCallD sp_either (tConsD (tSlot 1) (tConsD (tSlot 0) (tNilD))))))) (sRetD (tCD (.bl false))) (sNextD))
  (sSeqD (sIfD (tTst (tBin rNeD (tCallD sp_both (tConsD (tSlot 0) (tConsD (tCallD sp_either (tConsD (tSlot 1) (tConsD (tSlot 2) (tNilD)))) (tNilD)))) (tCallD sp_either (tConsD (tCallD sp_both (tConsD (tSlot 0) (tConsD (tSlot 1) (tNilD)))) (tConsD (tCallD sp_both (tConsD (tSlot 0) (tConsD (tSlot 2) (tNilD)))) (tNilD)))))) (sRetD (tCD (.bl false))) (sNextD))
  (sSeqD (sIfD (tTst (tBin rNeD (tCallD sp_less (tConsD (tSlot 0) (tConsD (tCallD sp_either (tConsD (tSlot 1) (tConsD (tSlot 2) (tNilD)))) (tNilD)))) (tCallD sp_both (tConsD (tCallD sp_less (tConsD (tSlot 0) (tConsD (tSlot 1) (tNilD)))) (tConsD (tCallD sp_less (tConsD (tSlot 0) (tConsD (tSlot 2) (tNilD)))) (tNilD)))))) (sRetD (tCD (.bl false))) (sNextD))
  (sSeqD (sIfD (tTst (tBin rNeD (tCallD sp_less (tConsD (tSlot 3) (tConsD (tCallD sp_both (tConsD (tSlot 0) (tConsD (tSlot 1) (tNilD)))) (tNilD)))) (tCallD sp_either (tConsD (tCallD sp_less (tConsD (tSlot 3) (tConsD (tSlot 0) (tNilD)))) (tConsD (tCallD sp_less (tConsD (tSlot 3) (tConsD (tSlot 1) (tNilD)))) (tNilD)))))) (sRetD (tCD (.bl false))) (sNextD))
  (sSeqD (sIfD (tOrD (tTst (tBin rNeD (tCallD sp_less (tConsD (tSlot 3) (tConsD (tCallD sp_less (tConsD (tSlot 3) (tConsD (tSlot 0) (tNilD)))) (tNilD)))) (tCallD sp_smallest (tConsD (tSlot 0) (tNilD))))) (tTst (tBin rNeD (tCallD sp_both (tConsD (tSlot 0) (tConsD (tSlot 3) (tNilD)))) (tCallD sp_smallest (tConsD (tSlot 0) (tNilD)))))) (sRetD (tCD (.bl false))) (sNextD))
  (sSeqD (sIfD (tOrD (tTst (tBin rNeD (tCallD sp_either (tConsD (tCallD sp_less (tConsD (tSlot 0) (tConsD (tSlot 1) (tNilD)))) (tConsD (tCallD sp_both (tConsD (tSlot 0) (tConsD (tSlot 1) (tNilD)))) (tNilD)))) (tCallD sp_smallest (tConsD (tSlot 0) (tNilD))))) (tTst (tBin rNeD (tCallD sp_both (tConsD (tSlot 0) (tConsD (tSlot 0) (tNilD)))) (tCallD sp_smallest (tConsD (tSlot 0) (tNilD)))))) (sRetD (tCD (.bl false))) (sNextD))
  (sRetD (tAndV (tBin rEqD (tCallD sp_less (tConsD (tSlot 0) (tConsD (tSlot 1) (tNilD)))) (tCallD sp_both (tConsD (tSlot 0) (tConsD (tCallD sp_less (tConsD (tSlot 3) (tConsD (tSlot 1) (tNilD)))) (tNilD))))) (tBin rEqD (tCallD sp_size (tConsD (tCallD sp_less (tConsD (tSlot 0) (tConsD (tSlot 0) (tNilD)))) (tNilD))) (tCD (.int 0))))))))))
theorem dv__law_sets_right (T : Txt K mg) (hB : SysB base) {k : Nat} {f : Addr} {cdv : Value} {A : Around} {outer : List Env} {s : Shared} {H : Hp} (hr : RoomG k (A.deeper (envOfC "_law_sets_right" (defScope s__law_sets_right) s.heap.objs.size f cdv))) {sp_both : SpD} (h_both : Has P w K mg base k "both" ["one", "other"] sp_both) {sp_either : SpD} (h_either : Has P w K mg base k "either" ["one", "other"] sp_either) {sp_less : SpD} (h_less : Has P w K mg base k "less" ["one", "other"] sp_less) {sp_smallest : SpD} (h_smallest : Has P w K mg base k "smallest" ["machine"] sp_smallest) {sp_size : SpD} (h_size : Has P w K mg base k "size" ["machine"] sp_size) :
    DSs (cxOf CX0 P w K mg base N__law_sets_right "_law_sets_right" (defScope s__law_sets_right) f cdv A outer s H E0).nox (defBody s__law_sets_right) (rd__law_sets_right sp_both sp_either sp_less sp_smallest sp_size) :=
    dss_cons (ds_if (dt_w (dw_or (dt_ne hr hB (de_call h_both hr (da_cons (de_slot 0 (pv 0)) (da_cons (de_slot 1 (pv 1)) (da_nil)))) (de_call h_both hr (da_cons (de_slot 1 (pv 1)) (da_cons (de_slot 0 (pv 0)) (da_nil))))) (dw_or1 (dt_ne hr hB (de_call h_either hr (da_cons (de_slot 0 (pv 0)) (da_cons (de_slot 1 (pv 1)) (da_nil)))) (de_call h_either hr (da_cons (de_slot 1 (pv 1)) (da_cons (de_slot 0 (pv 0)) (da_nil)))))))) (dss_one (ds_ret (de_bl))) (dss_nil))
    (dss_cons (ds_if (dt_ne hr hB (de_call h_both hr (da_cons (de_slot 0 (pv 0)) (da_cons (de_call h_either hr (da_cons (de_slot 1 (pv 1)) (da_cons (de_slot 2 (pv 2)) (da_nil)))) (da_nil)))) (de_call h_either hr (da_cons (de_call h_both hr (da_cons (de_slot 0 (pv 0)) (da_cons (de_slot 1 (pv 1)) (da_nil)))) (da_cons (de_call h_both hr (da_cons (de_slot 0 (pv 0)) (da_cons (de_slot 2 (pv 2)) (da_nil)))) (da_nil))))) (dss_one (ds_ret (de_bl))) (dss_nil))
    (dss_cons (ds_if (dt_ne hr hB (de_call h_less hr (da_cons (de_slot 0 (pv 0)) (da_cons (de_call h_either hr (da_cons (de_slot 1 (pv 1)) (da_cons (de_slot 2 (pv 2)) (da_nil)))) (da_nil)))) (de_call h_both hr (da_cons (de_call h_less hr (da_cons (de_slot 0 (pv 0)) (da_cons (de_slot 1 (pv 1)) (da_nil)))) (da_cons (de_call h_less hr (da_cons (de_slot 0 (pv 0)) (da_cons (de_slot 2 (pv 2)) (da_nil)))) (da_nil))))) (dss_one (ds_ret (de_bl))) (dss_nil))
    (dss_cons (ds_if (dt_ne hr hB (de_call h_less hr (da_cons (de_slot 3 (pv 3)) (da_cons (de_call h_both hr (da_cons (de_slot 0 (pv 0)) (da_cons (de_slot 1 (pv 1)) (da_nil)))) (da_nil)))) (de_call h_either hr (da_cons (de_call h_less hr (da_cons (de_slot 3 (pv 3)) (da_cons (de_slot 0 (pv 0)) (da_nil)))) (da_cons (de_call h_less hr (da_cons (de_slot 3 (pv 3)) (da_cons (de_slot 1 (pv 1)) (da_nil)))) (da_nil))))) (dss_one (ds_ret (de_bl))) (dss_nil))
    (dss_cons (ds_if (dt_w (dw_or (dt_ne hr hB (de_call h_less hr (da_cons (de_slot 3 (pv 3)) (da_cons (de_call h_less hr (da_cons (de_slot 3 (pv 3)) (da_cons (de_slot 0 (pv 0)) (da_nil)))) (da_nil)))) (de_call h_smallest hr (da_cons (de_slot 0 (pv 0)) (da_nil)))) (dw_or1 (dt_ne hr hB (de_call h_both hr (da_cons (de_slot 0 (pv 0)) (da_cons (de_slot 3 (pv 3)) (da_nil)))) (de_call h_smallest hr (da_cons (de_slot 0 (pv 0)) (da_nil))))))) (dss_one (ds_ret (de_bl))) (dss_nil))
    (dss_cons (ds_if (dt_w (dw_or (dt_ne hr hB (de_call h_either hr (da_cons (de_call h_less hr (da_cons (de_slot 0 (pv 0)) (da_cons (de_slot 1 (pv 1)) (da_nil)))) (da_cons (de_call h_both hr (da_cons (de_slot 0 (pv 0)) (da_cons (de_slot 1 (pv 1)) (da_nil)))) (da_nil)))) (de_call h_smallest hr (da_cons (de_slot 0 (pv 0)) (da_nil)))) (dw_or1 (dt_ne hr hB (de_call h_both hr (da_cons (de_slot 0 (pv 0)) (da_cons (de_slot 0 (pv 0)) (da_nil)))) (de_call h_smallest hr (da_cons (de_slot 0 (pv 0)) (da_nil))))))) (dss_one (ds_ret (de_bl))) (dss_nil))
    (dss_one (ds_ret (de_and (de_eq hr hB (de_call h_less hr (da_cons (de_slot 0 (pv 0)) (da_cons (de_slot 1 (pv 1)) (da_nil)))) (de_call h_both hr (da_cons (de_slot 0 (pv 0)) (da_cons (de_call h_less hr (da_cons (de_slot 3 (pv 3)) (da_cons (de_slot 1 (pv 1)) (da_nil)))) (da_nil))))) (de_one (de_eq hr hB (de_call h_size hr (da_cons (de_call h_less hr (da_cons (de_slot 0 (pv 0)) (da_cons (de_slot 0 (pv 0)) (da_nil)))) (da_nil))) (de_int)))))))))))
theorem mk__law_sets_right (D : DefOf K mg "_law_sets_right" s__law_sets_right) (T : Txt K mg) (hB : SysB base) {k : Nat} {sp_both : SpD} (h_both : Has P w K mg base k "both" ["one", "other"] sp_both) {sp_either : SpD} (h_either : Has P w K mg base k "either" ["one", "other"] sp_either) {sp_less : SpD} (h_less : Has P w K mg base k "less" ["one", "other"] sp_less) {sp_smallest : SpD} (h_smallest : Has P w K mg base k "smallest" ["machine"] sp_smallest) {sp_size : SpD} (h_size : Has P w K mg base k "size" ["machine"] sp_size) {sp : SpD} (len : ∀ ds S Q, sp ds S Q → ds.length = 4) (hq : ∀ ds S Qd, sp ds S Qd → rd__law_sets_right sp_both sp_either sp_less sp_smallest sp_size { nx := fun _ S2 => fin Qd .non S2, rt := fin Qd, bk := fun _ _ => False, ct := fun _ _ => False } (pad 4 ds) S) : Has P w K mg base (k + 1) "_law_sets_right" ["_law_one_here", "_law_other", "_law_third", "_law_every"] sp :=
  let ⟨f, fd, F, hm⟩ := D.ex
  .of F hm (F.binds fun _ _ _ _ _ _ us hl => match us, hl with | [_, _, _, _], _ => rfl) (FnD.of F sc__law_sets_right _ len (fun cdv A outer s H hr => dv__law_sets_right T hB hr h_both h_either h_less h_smallest h_size) hq)
abbrev s__law_counts_right : Stmt := top 36
abbrev N__law_counts_right : List Str := ["_law_one_here", "_law_other", "_law_length", "_law_sums"]
theorem sc__law_counts_right : FnScope N__law_counts_right ["_law_one_here", "_law_other", "_law_length"] (defScope s__law_counts_right) := ⟨rfl, rfl, rfl, by decide +kernel, rfl, by decide +kernel, by decide +kernel⟩
def rd__law_counts_right (sp_count : SpD) (sp_either : SpD) (sp_both : SpD) (sp_less : SpD) : TSD :=
  sSeqD (sAsgD (tLstR (tConsD (tBin rAddD (tCallD sp_count (tConsD (tCallD sp_either (tConsD (tSlot 0) (tConsD (tSlot 1) (tNilD)))) (tConsD (tSlot 2) (tNilD)))) (tCallD sp_count (tConsD (tCallD sp_both (tConsD (tSlot 0) (tConsD (tSlot 1) (tNilD)))) (tConsD (tSlot 2) (tNilD))))) (tNilD))) (gNameD 3))
  (sSeqD (sDropD (tMethL rAppD (tSlot 3) (tConsD (tBin rAddD (tCallD sp_count (tConsD (tCallD sp_less (tConsD (tSlot 0) (tConsD (tSlot 1) (tNilD)))) (tConsD (tSlot 2) (tNilD)))) (tCallD sp_count (tConsD (tCallD sp_both (tConsD (tSlot 0) (tConsD (tSlot 1) (tNilD)))) (tConsD (tSlot 2) (tNilD))))) (tNilD))))
  (sRetD (tBin rEqD (tSlot 3) (tLstV (tConsD (tBin rAddD (tCallD sp_count (tConsD (tSlot 0) (tConsD (tSlot 2) (tNilD)))) (tCallD sp_count (tConsD (tSlot 1) (tConsD (tSlot 2) (tNilD))))) (tConsD (tCallD sp_count (tConsD (tSlot 0) (tConsD (tSlot 2) (tNilD)))) (tNilD)))))))
theorem dv__law_counts_right (T : Txt K mg) (hB : SysB base) {k : Nat} {f : Addr} {cdv : Value} {A : Around} {outer : List Env} {s : Shared} {H : Hp} (hr : RoomG k (A.deeper (envOfC "_law_counts_right" (defScope s__law_counts_right) s.heap.objs.size f cdv))) {sp_count : SpD} (h_count : Has P w K mg base k "count" ["machine", "length"] sp_count) {sp_either : SpD} (h_either : Has P w K mg base k "either" ["one", "other"] sp_either) {sp_both : SpD} (h_both : Has P w K mg base k "both" ["one", "other"] sp_both) {sp_less : SpD} (h_less : Has P w K mg base k "less" ["one", "other"] sp_less) :
    DSs (cxOf CX0 P w K mg base N__law_counts_right "_law_counts_right" (defScope s__law_counts_right) f cdv A outer s H E0).nox (defBody s__law_counts_right) (rd__law_counts_right sp_count sp_either sp_both sp_less) :=
    dss_cons (ds_set 3 sc__law_counts_right.nd (de_lstR (da_cons (de_add (de_call h_count hr (da_cons (de_call h_either hr (da_cons (de_slot 0 (pv 0)) (da_cons (de_slot 1 (pv 1)) (da_nil)))) (da_cons (de_slot 2 (pv 2)) (da_nil)))) (de_call h_count hr (da_cons (de_call h_both hr (da_cons (de_slot 0 (pv 0)) (da_cons (de_slot 1 (pv 1)) (da_nil)))) (da_cons (de_slot 2 (pv 2)) (da_nil))))) (da_nil))))
    (dss_cons (ds_expr (de_append (de_slot 3 (pv 3)) (da_cons (de_add (de_call h_count hr (da_cons (de_call h_less hr (da_cons (de_slot 0 (pv 0)) (da_cons (de_slot 1 (pv 1)) (da_nil)))) (da_cons (de_slot 2 (pv 2)) (da_nil)))) (de_call h_count hr (da_cons (de_call h_both hr (da_cons (de_slot 0 (pv 0)) (da_cons (de_slot 1 (pv 1)) (da_nil)))) (da_cons (de_slot 2 (pv 2)) (da_nil))))) (da_nil))))
    (dss_one (ds_ret (de_eq hr hB (de_slot 3 (pv 3)) (de_lstV (da_cons (de_add (de_call h_count hr (da_cons (de_slot 0 (pv 0)) (da_cons (de_slot 2 (pv 2)) (da_nil)))) (de_call h_count hr (da_cons (de_slot 1 (pv 1)) (da_cons (de_slot 2 (pv 2)) (da_nil))))) (da_cons (de_call h_count hr (da_cons (de_slot 0 (pv 0)) (da_cons (de_slot 2 (pv 2)) (da_nil)))) (da_nil))))))))
theorem mk__law_counts_right (D : DefOf K mg "_law_counts_right" s__law_counts_right) (T : Txt K mg) (hB : SysB base) {k : Nat} {sp_count : SpD} (h_count : Has P w K mg base k "count" ["machine", "length"] sp_count) {sp_either : SpD} (h_either : Has P w K mg base k "either" ["one", "other"] sp_either) {sp_both : SpD} (h_both : Has P w K mg base k "both" ["one", "other"] sp_both) {sp_less : SpD} (h_less : Has P w K mg base k "less" ["one", "other"] sp_less) {sp : SpD} (len : ∀ ds S Q, sp ds S Q → ds.length = 3) (hq : ∀ ds S Qd, sp ds S Qd → rd__law_counts_right sp_count sp_either sp_both sp_less { nx := fun _ S2 => fin Qd .non S2, rt := fin Qd, bk := fun _ _ => False, ct := fun _ _ => False } (pad 4 ds) S) : Has P w K mg base (k + 1) "_law_counts_right" ["_law_one_here", "_law_other", "_law_length"] sp :=
  let ⟨f, fd, F, hm⟩ := D.ex
  .of F hm (F.binds fun _ _ _ _ _ _ us hl => match us, hl with | [_, _, _], _ => rfl) (FnD.of F sc__law_counts_right _ len (fun cdv A outer s H hr => dv__law_counts_right T hB hr h_count h_either h_both h_less) hq)
abbrev s__law_apart_right : Stmt := top 37
abbrev N__law_apart_right : List Str := ["_law_one_here", "_law_other", "_law_word", "_law_unlike", "_law_length"]
theorem sc__law_apart_right : FnScope N__law_apart_right ["_law_one_here", "_law_other"] (defScope s__law_apart_right) := ⟨rfl, rfl, rfl, by decide +kernel, rfl, by decide +kernel, by decide +kernel⟩
def rd__law_apart_right (sp_apart : SpD) (sp_smallest : SpD) (sp_size : SpD) (sp_less : SpD) (sp_either : SpD) (sp_is_of : SpD) (sp_told : SpD) (sp_count : SpD) : TSD :=
  sSeqD (sAsgD (tCallD sp_apart (tConsD (tSlot 0) (tConsD (tSlot 1) (tNilD)))) (gNameD 2))
  (sSeqD (sIfD (tOrD (tTst (tBin rNeD (tUnD rIsN (tSlot 2)) (tBin rEqD (tCallD sp_smallest (tConsD (tSlot 0) (tNilD))) (tCallD sp_smallest (tConsD (tSlot 1) (tNilD)))))) (tTst (tBin rNeD (tSlot 2) (tCallD sp_apart (tConsD (tSlot 1) (tConsD (tSlot 0) (tNilD))))))) (sRetD (tCD (.bl false))) (sNextD))
  (sSeqD (sIfD (tTst (tUnD rIsN (tSlot 2))) (sRetD (tAndV (tBin rEqD (tCallD sp_size (tConsD (tCallD sp_less (tConsD (tSlot 0) (tConsD (tSlot 1) (tNilD)))) (tNilD))) (tCD (.int 0))) (tBin rEqD (tCallD sp_size (tConsD (tCallD sp_less (tConsD (tSlot 1) (tConsD (tSlot 0) (tNilD)))) (tNilD))) (tCD (.int 0))))) (sNextD))
  (sSeqD (sAsgD (tCallD sp_either (tConsD (tCallD sp_less (tConsD (tSlot 0) (tConsD (tSlot 1) (tNilD)))) (tConsD (tCallD sp_less (tConsD (tSlot 1) (tConsD (tSlot 0) (tNilD)))) (tNilD)))) (gNameD 3))
  (sSeqD (sIfD (tOrD (tTst (tBin rEqD (tCallD sp_is_of (tConsD (tSlot 0) (tConsD (tSlot 2) (tNilD)))) (tCallD sp_is_of (tConsD (tSlot 1) (tConsD (tSlot 2) (tNilD)))))) (tTst (tBin rNeD (tCallD sp_told (tConsD (tSlot 3) (tConsD (tCallD rLenD (tConsD (tSlot 2) (tNilD))) (tConsD (tCD (.int 1)) (tNilD))))) (tTupD (tConsD (tSlot 2) (tNilD)))))) (sRetD (tCD (.bl false))) (sNextD))
  (sRetD (tBin rEqD (tLcV (iRng1D (tConsD (tCallD rLenD (tConsD (tSlot 2) (tNilD))) (tNilD))) (gNameD 4) (tTst (tBin (rCmpI fGt) (tCallD sp_count (tConsD (tSlot 3) (tConsD (tSlot 4) (tNilD)))) (tCD (.int 0)))) (tSlot 4) [4]) (tLstV (tNilD))))))))
theorem dv__law_apart_right (T : Txt K mg) (hB : SysB base) {k : Nat} {f : Addr} {cdv : Value} {A : Around} {outer : List Env} {s : Shared} {H : Hp} (hr : RoomG k (A.deeper (envOfC "_law_apart_right" (defScope s__law_apart_right) s.heap.objs.size f cdv))) {sp_apart : SpD} (h_apart : Has P w K mg base k "apart" ["one", "other"] sp_apart) {sp_smallest : SpD} (h_smallest : Has P w K mg base k "smallest" ["machine"] sp_smallest) {sp_size : SpD} (h_size : Has P w K mg base k "size" ["machine"] sp_size) {sp_less : SpD} (h_less : Has P w K mg base k "less" ["one", "other"] sp_less) {sp_either : SpD} (h_either : Has P w K mg base k "either" ["one", "other"] sp_either) {sp_is_of : SpD} (h_is_of : Has P w K mg base k "is_of" ["machine", "word"] sp_is_of) {sp_told : SpD} (h_told : Has P w K mg base k "told" ["machine", "length", "most"] sp_told) {sp_count : SpD} (h_count : Has P w K mg base k "count" ["machine", "length"] sp_count) :
    DSs (cxOf CX0 P w K mg base N__law_apart_right "_law_apart_right" (defScope s__law_apart_right) f cdv A outer s H E0).nox (defBody s__law_apart_right) (rd__law_apart_right sp_apart sp_smallest sp_size sp_less sp_either sp_is_of sp_told sp_count) :=
    dss_cons (ds_set 2 sc__law_apart_right.nd (de_call h_apart hr (da_cons (de_slot 0 (pv 0)) (da_cons (de_slot 1 (pv 1)) (da_nil)))))
    (dss_cons (ds_if (dt_w (dw_or (dt_ne hr hB (de_isN (de_slot 2 (pv 2))) (de_eq hr hB (de_call h_smallest hr (da_cons (de_slot 0 (pv 0)) (da_nil))) (de_call h_smallest hr (da_cons (de_slot 1 (pv 1)) (da_nil))))) (dw_or1 (dt_ne hr hB (de_slot 2 (pv 2)) (de_call h_apart hr (da_cons (de_slot 1 (pv 1)) (da_cons (de_slot 0 (pv 0)) (da_nil)))))))) (dss_one (ds_ret (de_bl))) (dss_nil))
    (dss_cons (ds_if (dt_isN (de_slot 2 (pv 2))) (dss_one (ds_ret (de_and (de_eq hr hB (de_call h_size hr (da_cons (de_call h_less hr (da_cons (de_slot 0 (pv 0)) (da_cons (de_slot 1 (pv 1)) (da_nil)))) (da_nil))) (de_int)) (de_one (de_eq hr hB (de_call h_size hr (da_cons (de_call h_less hr (da_cons (de_slot 1 (pv 1)) (da_cons (de_slot 0 (pv 0)) (da_nil)))) (da_nil))) (de_int)))))) (dss_nil))
    (dss_cons (ds_set 3 sc__law_apart_right.nd (de_call h_either hr (da_cons (de_call h_less hr (da_cons (de_slot 0 (pv 0)) (da_cons (de_slot 1 (pv 1)) (da_nil)))) (da_cons (de_call h_less hr (da_cons (de_slot 1 (pv 1)) (da_cons (de_slot 0 (pv 0)) (da_nil)))) (da_nil)))))
    (dss_cons (ds_if (dt_w (dw_or (dt_eq hr hB (de_call h_is_of hr (da_cons (de_slot 0 (pv 0)) (da_cons (de_slot 2 (pv 2)) (da_nil)))) (de_call h_is_of hr (da_cons (de_slot 1 (pv 1)) (da_cons (de_slot 2 (pv 2)) (da_nil))))) (dw_or1 (dt_ne hr hB (de_call h_told hr (da_cons (de_slot 3 (pv 3)) (da_cons (de_callB call_lenRD T.b_len bt_len (da_cons (de_slot 2 (pv 2)) (da_nil))) (da_cons (de_int) (da_nil))))) (de_tup (da_cons (de_slot 2 (pv 2)) (da_nil))))))) (dss_one (ds_ret (de_bl))) (dss_nil))
    (dss_one (ds_ret (de_eq hr hB (de_lcV (own := [("_law_length", 4)]) sc__law_apart_right.nd (di_range1 T.b_range (da_cons (de_callB call_lenRD T.b_len bt_len (da_cons (de_slot 2 (pv 2)) (da_nil))) (da_nil))) (blkOk_by (own := [("_law_length", 4)]) (N := N__law_apart_right) (sc := defScope s__law_apart_right) (by decide +kernel)) (fun _ _ _ _ _ => dgw_name 4 (by decide) (pg_name (i := 4) sc__law_apart_right.nd rfl (Or.inl rfl))) (fun _ _ _ _ _ => dts_one (dt_gt (de_call h_count hr (da_cons (de_slot 3 (pv 3)) (da_cons (de_slot 4 (pv 4)) (da_nil)))) (de_int))) (fun _ _ _ _ _ => de_slot 4 (pv 4))) (de_lstV (da_nil)))))))))
theorem mk__law_apart_right (D : DefOf K mg "_law_apart_right" s__law_apart_right) (T : Txt K mg) (hB : SysB base) {k : Nat} {sp_apart : SpD} (h_apart : Has P w K mg base k "apart" ["one", "other"] sp_apart) {sp_smallest : SpD} (h_smallest : Has P w K mg base k "smallest" ["machine"] sp_smallest) {sp_size : SpD} (h_size : Has P w K mg base k "size" ["machine"] sp_size) {sp_less : SpD} (h_less : Has P w K mg base k "less" ["one", "other"] sp_less) {sp_either : SpD} (h_either : Has P w K mg base k "either" ["one", "other"] sp_either) {sp_is_of : SpD} (h_is_of : Has P w K mg base k "is_of" ["machine", "word"] sp_is_of) {sp_told : SpD} (h_told : Has P w K mg base k "told" ["machine", "length", "most"] sp_told) {sp_count : SpD} (h_count : Has P w K mg base k "count" ["machine", "length"] sp_count) {sp : SpD} (len : ∀ ds S Q, sp ds S Q → ds.length = 2) (hq : ∀ ds S Qd, sp ds S Qd → rd__law_apart_right sp_apart sp_smallest sp_size sp_less sp_either sp_is_of sp_told sp_count { nx := fun _ S2 => fin Qd .non S2, rt := fin Qd, bk := fun _ _ => False, ct := fun _ _ => False } (pad 5 ds) S) : Has P w K mg base (k + 1) "_law_apart_right" ["_law_one_here", "_law_other"] sp :=
  let ⟨f, fd, F, hm⟩ := D.ex
  .of F hm (F.binds fun _ _ _ _ _ _ us hl => match us, hl with | [_, _], _ => rfl) (FnD.of F sc__law_apart_right _ len (fun cdv A outer s H hr => dv__law_apart_right T hB hr h_apart h_smallest h_size h_less h_either h_is_of h_told h_count) hq)
abbrev s_law : Stmt := top 38
abbrev N_law : List Str := ["_law_script", "_law_deck_here", "_law_turn", "_law_letters", "_law_one_here", "_law_other", "_law_third", "_law_every", "_law_own", "_law_length", "_law_k"]
theorem sc_law : FnScope N_law ["_law_script"] (defScope s_law) := ⟨rfl, rfl, rfl, by decide +kernel, rfl, by decide +kernel, by decide +kernel⟩
def rd_law (sp__law_deck : SpD) (sp__law_draw : SpD) (sp__law_machine : SpD) (sp__law_sets_right : SpD) (sp_both : SpD) (sp_either : SpD) (sp_less : SpD) (sp_smallest : SpD) (sp__law_counts_right : SpD) (sp__law_apart_right : SpD) : TSD :=
  sSeqD (sAsgD (tCallD sp__law_deck (tConsD (tSlot 0) (tNilD))) (gNameD 1))
  (sSeqD (sForD (iRng1D (tConsD (tCD (.int 6)) (tNilD))) (gNameD 2) (sSeqD (sAsgD (tBin rAddD (tCD (.int 1)) (tCallD sp__law_draw (tConsD (tSlot 1) (tConsD (tCD (.int 3)) (tNilD))))) (gNameD 3))
  (sSeqD (sAsgD (tLcV (iRng1D (tConsD (tCD (.int 3)) (tNilD))) (gNameD 10) (tYesD) (tCallD sp__law_machine (tConsD (tSlot 1) (tConsD (tSlot 3) (tConsD (tCD (.int 6)) (tNilD))))) [10]) (gSeqD 3 (gConsD (gNameD 4) (gConsD (gNameD 5) (gConsD (gNameD 6) (gNilD))))))
  (sSeqD (sAsgD (tTupD (tConsD (tSlot 3) (tConsD (tTupD (tConsD (tBin rMulD (tTupD (tConsD (tCD (.int 0)) (tNilD))) (tSlot 3)) (tNilD))) (tConsD (tTupD (tConsD (tCD (.bl true)) (tNilD))) (tNilD))))) (gNameD 7))
  (sSeqD (sIfD (tOrD (tNotD (tTst (tCallD sp__law_sets_right (tConsD (tSlot 4) (tConsD (tSlot 5) (tConsD (tSlot 6) (tConsD (tSlot 7) (tNilD)))))))) (tNotD (tTst (tCallD sp__law_sets_right (tConsD (tSlot 6) (tConsD (tSlot 4) (tConsD (tSlot 7) (tConsD (tSlot 7) (tNilD))))))))) (sRetD (tCD (.bl false))) (sNextD))
  (sSeqD (sForD (iAnyD (tLstV (tConsD (tCallD sp_both (tConsD (tSlot 4) (tConsD (tSlot 5) (tNilD)))) (tConsD (tCallD sp_either (tConsD (tSlot 4) (tConsD (tSlot 5) (tNilD)))) (tConsD (tCallD sp_less (tConsD (tSlot 4) (tConsD (tSlot 5) (tNilD)))) (tConsD (tCallD sp_smallest (tConsD (tSlot 6) (tNilD))) (tNilD))))))) (gNameD 8) (sIfD (tOrD (tTst (tBin rNeD (tCallD rReprD (tConsD (tCallD sp_smallest (tConsD (tSlot 8) (tNilD))) (tNilD))) (tCallD rReprD (tConsD (tSlot 8) (tNilD))))) (tTst (tBin (rCmpI fGt) (tCallD rLenD (tConsD (tBin rIxX (tSlot 8) (tCD (.int 1))) (tNilD))) (tCD (.int 400))))) (sRetD (tCD (.bl false))) (sNextD)))
  (sSeqD (sForD (iAnyD (tTupD (tConsD (tCD (.int 0)) (tConsD (tCD (.int 1)) (tConsD (tCD (.int 2)) (tConsD (tBin rAddD (tCD (.int 5)) (tCallD sp__law_draw (tConsD (tSlot 1) (tConsD (tCD (.int 20)) (tNilD))))) (tNilD))))))) (gNameD 9) (sIfD (tOrD (tNotD (tTst (tCallD sp__law_counts_right (tConsD (tSlot 4) (tConsD (tSlot 5) (tConsD (tSlot 9) (tNilD))))))) (tNotD (tTst (tCallD sp__law_counts_right (tConsD (tSlot 5) (tConsD (tSlot 6) (tConsD (tSlot 9) (tNilD)))))))) (sRetD (tCD (.bl false))) (sNextD)))
  (sIfD (tOrD (tNotD (tTst (tCallD sp__law_apart_right (tConsD (tSlot 4) (tConsD (tSlot 5) (tNilD)))))) (tNotD (tTst (tCallD sp__law_apart_right (tConsD (tSlot 4) (tConsD (tCallD sp_either (tConsD (tSlot 4) (tConsD (tSlot 6) (tNilD)))) (tNilD))))))) (sRetD (tCD (.bl false))) (sNextD)))))))))
  (sRetD (tCD (.bl true))))
theorem dv_law (T : Txt K mg) (hB : SysB base) {k : Nat} {f : Addr} {cdv : Value} {A : Around} {outer : List Env} {s : Shared} {H : Hp} (hr : RoomG k (A.deeper (envOfC "law" (defScope s_law) s.heap.objs.size f cdv))) {sp__law_deck : SpD} (h__law_deck : Has P w K mg base k "_law_deck" ["_law_script"] sp__law_deck) {sp__law_draw : SpD} (h__law_draw : Has P w K mg base k "_law_draw" ["_law_deck_here", "_law_many"] sp__law_draw) {sp__law_machine : SpD} (h__law_machine : Has P w K mg base k "_law_machine" ["_law_deck_here", "_law_letters", "_law_most"] sp__law_machine) {sp__law_sets_right : SpD} (h__law_sets_right : Has P w K mg base k "_law_sets_right" ["_law_one_here", "_law_other", "_law_third", "_law_every"] sp__law_sets_right) {sp_both : SpD} (h_both : Has P w K mg base k "both" ["one", "other"] sp_both) {sp_either : SpD} (h_either : Has P w K mg base k "either" ["one", "other"] sp_either) {sp_less : SpD} (h_less : Has P w K mg base k "less" ["one", "other"] sp_less) {sp_smallest : SpD} (h_smallest : Has P w K mg base k "smallest" ["machine"] sp_smallest) {sp__law_counts_right : SpD} (h__law_counts_right : Has P w K mg base k "_law_counts_right" ["_law_one_here", "_law_other", "_law_length"] sp__law_counts_right) {sp__law_apart_right : SpD} (h__law_apart_right : Has P w K mg base k "_law_apart_right" ["_law_one_here", "_law_other"] sp__law_apart_right) :
    DSs (cxOf CX0 P w K mg base N_law "law" (defScope s_law) f cdv A outer s H E0).nox (defBody s_law) (rd_law sp__law_deck sp__law_draw sp__law_machine sp__law_sets_right sp_both sp_either sp_less sp_smallest sp__law_counts_right sp__law_apart_right) :=
    dss_cons (ds_set 1 sc_law.nd (de_call h__law_deck hr (da_cons (de_slot 0 (pv 0)) (da_nil))))
    (dss_cons (ds_for PassesOwn.never (di_range1 T.b_range (da_cons (de_int) (da_nil))) (dg_name 2 (pg_name (i := 2) sc_law.nd rfl (Or.inl rfl))) (dss_cons (ds_set 3 sc_law.nd (de_add (de_int) (de_call h__law_draw hr (da_cons (de_slot 1 (pv 1)) (da_cons (de_int) (da_nil))))))
    (dss_cons (ds_asg (de_lcV (own := [("_law_k", 10)]) sc_law.nd (di_range1 T.b_range (da_cons (de_int) (da_nil))) (blkOk_by (own := [("_law_k", 10)]) (N := N_law) (sc := defScope s_law) (by decide +kernel)) (fun _ _ _ _ _ => dgw_name 10 (by decide) (pg_name (i := 10) sc_law.nd rfl (Or.inl rfl))) (fun _ _ _ _ _ => dts_nil) (fun _ _ _ _ _ => de_call h__law_machine hr (da_cons (de_slot 1 (pv 1)) (da_cons (de_slot 3 (pv 3)) (da_cons (de_int) (da_nil)))))) (dg_seq rfl (dgs_cons (dg_name 4 (pg_name (i := 4) sc_law.nd rfl (Or.inl rfl))) (dgs_cons (dg_name 5 (pg_name (i := 5) sc_law.nd rfl (Or.inl rfl))) (dgs_cons (dg_name 6 (pg_name (i := 6) sc_law.nd rfl (Or.inl rfl))) (dgs_nil))))))
    (dss_cons (ds_set 7 sc_law.nd (de_tup (da_cons (de_slot 3 (pv 3)) (da_cons (de_tup (da_cons (de_mul (de_tup (da_cons (de_int) (da_nil))) (de_slot 3 (pv 3))) (da_nil))) (da_cons (de_tup (da_cons (de_bl) (da_nil))) (da_nil))))))
    (dss_cons (ds_if (dt_w (dw_or (dt_not (dt_val (de_call h__law_sets_right hr (da_cons (de_slot 4 (pv 4)) (da_cons (de_slot 5 (pv 5)) (da_cons (de_slot 6 (pv 6)) (da_cons (de_slot 7 (pv 7)) (da_nil)))))))) (dw_or1 (dt_not (dt_val (de_call h__law_sets_right hr (da_cons (de_slot 6 (pv 6)) (da_cons (de_slot 4 (pv 4)) (da_cons (de_slot 7 (pv 7)) (da_cons (de_slot 7 (pv 7)) (da_nil))))))))))) (dss_one (ds_ret (de_bl))) (dss_nil))
    (dss_cons (ds_for PassesOwn.never (di_any (de_lstV (da_cons (de_call h_both hr (da_cons (de_slot 4 (pv 4)) (da_cons (de_slot 5 (pv 5)) (da_nil)))) (da_cons (de_call h_either hr (da_cons (de_slot 4 (pv 4)) (da_cons (de_slot 5 (pv 5)) (da_nil)))) (da_cons (de_call h_less hr (da_cons (de_slot 4 (pv 4)) (da_cons (de_slot 5 (pv 5)) (da_nil)))) (da_cons (de_call h_smallest hr (da_cons (de_slot 6 (pv 6)) (da_nil))) (da_nil))))))) (dg_name 8 (pg_name (i := 8) sc_law.nd rfl (Or.inl rfl))) (dss_one (ds_if (dt_w (dw_or (dt_ne hr hB (de_callB (call_reprD _ hr hB) T.b_repr bt_repr (da_cons (de_call h_smallest hr (da_cons (de_slot 8 (pv 8)) (da_nil))) (da_nil))) (de_callB (call_reprD _ hr hB) T.b_repr bt_repr (da_cons (de_slot 8 (pv 8)) (da_nil)))) (dw_or1 (dt_gt (de_callB call_lenRD T.b_len bt_len (da_cons (de_ixX hr (de_slot 8 (pv 8)) (de_int)) (da_nil))) (de_int))))) (dss_one (ds_ret (de_bl))) (dss_nil))))
    (dss_cons (ds_for PassesOwn.never (di_any (de_tup (da_cons (de_int) (da_cons (de_int) (da_cons (de_int) (da_cons (de_add (de_int) (de_call h__law_draw hr (da_cons (de_slot 1 (pv 1)) (da_cons (de_int) (da_nil))))) (da_nil))))))) (dg_name 9 (pg_name (i := 9) sc_law.nd rfl (Or.inl rfl))) (dss_one (ds_if (dt_w (dw_or (dt_not (dt_val (de_call h__law_counts_right hr (da_cons (de_slot 4 (pv 4)) (da_cons (de_slot 5 (pv 5)) (da_cons (de_slot 9 (pv 9)) (da_nil))))))) (dw_or1 (dt_not (dt_val (de_call h__law_counts_right hr (da_cons (de_slot 5 (pv 5)) (da_cons (de_slot 6 (pv 6)) (da_cons (de_slot 9 (pv 9)) (da_nil)))))))))) (dss_one (ds_ret (de_bl))) (dss_nil))))
    (dss_one (ds_if (dt_w (dw_or (dt_not (dt_val (de_call h__law_apart_right hr (da_cons (de_slot 4 (pv 4)) (da_cons (de_slot 5 (pv 5)) (da_nil)))))) (dw_or1 (dt_not (dt_val (de_call h__law_apart_right hr (da_cons (de_slot 4 (pv 4)) (da_cons (de_call h_either hr (da_cons (de_slot 4 (pv 4)) (da_cons (de_slot 6 (pv 6)) (da_nil)))) (da_nil))))))))) (dss_one (ds_ret (de_bl))) (dss_nil))))))))))
    (dss_one (ds_ret (de_bl))))
theorem mk_law (D : DefOf K mg "law" s_law) (T : Txt K mg) (hB : SysB base) {k : Nat} {sp__law_deck : SpD} (h__law_deck : Has P w K mg base k "_law_deck" ["_law_script"] sp__law_deck) {sp__law_draw : SpD} (h__law_draw : Has P w K mg base k "_law_draw" ["_law_deck_here", "_law_many"] sp__law_draw) {sp__law_machine : SpD} (h__law_machine : Has P w K mg base k "_law_machine" ["_law_deck_here", "_law_letters", "_law_most"] sp__law_machine) {sp__law_sets_right : SpD} (h__law_sets_right : Has P w K mg base k "_law_sets_right" ["_law_one_here", "_law_other", "_law_third", "_law_every"] sp__law_sets_right) {sp_both : SpD} (h_both : Has P w K mg base k "both" ["one", "other"] sp_both) {sp_either : SpD} (h_either : Has P w K mg base k "either" ["one", "other"] sp_either) {sp_less : SpD} (h_less : Has P w K mg base k "less" ["one", "other"] sp_less) {sp_smallest : SpD} (h_smallest : Has P w K mg base k "smallest" ["machine"] sp_smallest) {sp__law_counts_right : SpD} (h__law_counts_right : Has P w K mg base k "_law_counts_right" ["_law_one_here", "_law_other", "_law_length"] sp__law_counts_right) {sp__law_apart_right : SpD} (h__law_apart_right : Has P w K mg base k "_law_apart_right" ["_law_one_here", "_law_other"] sp__law_apart_right) {sp : SpD} (len : ∀ ds S Q, sp ds S Q → ds.length = 1) (hq : ∀ ds S Qd, sp ds S Qd → rd_law sp__law_deck sp__law_draw sp__law_machine sp__law_sets_right sp_both sp_either sp_less sp_smallest sp__law_counts_right sp__law_apart_right { nx := fun _ S2 => fin Qd .non S2, rt := fin Qd, bk := fun _ _ => False, ct := fun _ _ => False } (pad 11 ds) S) : Has P w K mg base (k + 1) "law" ["_law_script"] sp :=
  let ⟨f, fd, F, hm⟩ := D.ex
  .of F hm (F.binds fun _ _ _ _ _ _ us hl => match us, hl with | [_], _ => rfl) (FnD.of F sc_law _ len (fun cdv A outer s H hr => dv_law T hB hr h__law_deck h__law_draw h__law_machine h__law_sets_right h_both h_either h_less h_smallest h__law_counts_right h__law_apart_right) hq)
end
end K25
end

section
/-! PN14: sets go along. -/
namespace PM
open PySem PySem.Spec PyProof.Rows PD
local macro_rules | `(tactic| walk_at "rdx") => `(tactic| simp only [PD.pad, PD.gt_z, PD.gt_s, PD.st_z, PD.st_s, PD.sNextD, PD.sSeqD, PD.sBreakD, PD.sContD, PD.sDropD, PD.sRetD, PD.sRetND, PD.sIfD, PD.sNeverD, PD.sAsgD, PD.sPar2, PD.sPar3, PD.gNameD, PD.gNilD, PD.gConsD, PD.gTupD, PD.gSubD, PD.tNilD, PD.tConsD, PD.tTupD, PD.tLstV, PD.tLstR, PD.tBin, PD.tTst, PD.tAndD, PD.tOrD, PD.tNotD, PD.tIfD, PD.tAndV, PD.tOrV, PD.tNotV, PD.tUnD, PD.rNeg, PD.tCallD, PD.tSlot, PD.tCD, PD.tChainD, PD.rIsN, PD.rNotN, PD.rIsiD, PD.isi_non, PD.isi_bl, PD.isi_int, PD.isi_str, PD.isi_tup, PD.isi_lst, PD.isi_dic, PD.Ty.name, PD.rCmpI, PD.fLt, PD.fLe, PD.fGt, PD.fGe, PD.rAddD, PD.rSubD, PD.rFdivD, PD.rModD, PD.rPowD, PD.rMulD, PD.rAddR, PD.rMulR, PD.asSeq, PD.asLst, PD.rLenD, PD.rTupleD, PD.rListV, PD.rListR, PD.rIntD, PD.rBoolD, PD.rAbsD, PD.rIxD, PD.oNone, PD.oSome, PD.tSlD, PD.rSlD, PD.tRevTD, PD.rEqD, PD.rNeD, PD.nrm_non, PD.nrm_bl, PD.nrm_int, PD.nrm_str, PD.nrm_tup, PD.nrm_lst, PD.nrm_dic, PD.nrm_ref, PD.iSeqD, PD.iRng1D, PD.iRng2D, PD.sForD, PD.tLcV, PD.tLcR, PD.tYesD, PD.wipeD, PD.tMethL, PD.rAppD, PD.isRefL, PD.tDicV, PD.keyOf, PD.asDic, PD.srcD, PD.iAnyD, PD.iZipD, PD.iEnumD, PD.tDcV, PD.tDicR, PD.gSubX, PD.rSetX, PD.rIxX, PD.rInD, PD.rInX, PD.rInY, PD.rSumD, PD.tRevLD, PD.tRevX, PD.rSixD, PD.rJoinD, PD.tMethS, PD.rLixD, PD.rPopD, PD.rExtD, PD.tMethA, PD.rSetD, PD.rReprD, PD.eqk_int, PD.eqd_int, PD.eqk_str, PD.eqd_str, PD.eqk_lst0, PD.eqd_lst0, PD.eqk_tup0, PD.eqd_tup0, PD.tdOf, PD.rInW, PD.rIxW, PD.rSetW, PD.gSubW, PD.rLenW, PD.rGetW, PD.rGetAt, PD.tMethW, PD.rSetdW, PD.tDispR, PD.tPairsD, PD.putAll, PD.tDisp1T, PD.gSeqD, PD.rListW, PD.tLenSetD, ↓PM.asSeq_sq, ↓PM.asDic_sq, ↓PM.srcD_sq, ↓PM.tdOf_sq, ↓PM.rIxD_sq, Option.map_some, Option.bind_some, PD.spFn, PD.spDraw, reduceIte, true_and, and_true, or_false, false_or, Bool.not_true, Bool.not_false, Bool.false_eq_true, List.length_cons, List.length_nil, List.set_cons_zero, List.set_cons_succ, PD.HD.set_same, PD.HD.tick_hp, PD.HD.tick_c, PD.HD.tick_dk, PD.HD.set_c, PD.HD.set_dk])
local macro_rules | `(tactic| simp_all only [$xs,*]) => `(tactic| simp only [PD.pad, PD.gt_z, PD.gt_s, PD.st_z, PD.st_s, PD.sNextD, PD.sSeqD, PD.sBreakD, PD.sContD, PD.sDropD, PD.sRetD, PD.sRetND, PD.sIfD, PD.sNeverD, PD.sAsgD, PD.sPar2, PD.sPar3, PD.gNameD, PD.gNilD, PD.gConsD, PD.gTupD, PD.gSubD, PD.tNilD, PD.tConsD, PD.tTupD, PD.tLstV, PD.tLstR, PD.tBin, PD.tTst, PD.tAndD, PD.tOrD, PD.tNotD, PD.tIfD, PD.tAndV, PD.tOrV, PD.tNotV, PD.tUnD, PD.rNeg, PD.tCallD, PD.tSlot, PD.tCD, PD.tChainD, PD.rIsN, PD.rNotN, PD.rIsiD, PD.isi_non, PD.isi_bl, PD.isi_int, PD.isi_str, PD.isi_tup, PD.isi_lst, PD.isi_dic, PD.Ty.name, PD.rCmpI, PD.fLt, PD.fLe, PD.fGt, PD.fGe, PD.rAddD, PD.rSubD, PD.rFdivD, PD.rModD, PD.rPowD, PD.rMulD, PD.rAddR, PD.rMulR, PD.asSeq, PD.asLst, PD.rLenD, PD.rTupleD, PD.rListV, PD.rListR, PD.rIntD, PD.rBoolD, PD.rAbsD, PD.rIxD, PD.oNone, PD.oSome, PD.tSlD, PD.rSlD, PD.tRevTD, PD.rEqD, PD.rNeD, PD.nrm_non, PD.nrm_bl, PD.nrm_int, PD.nrm_str, PD.nrm_tup, PD.nrm_lst, PD.nrm_dic, PD.nrm_ref, PD.iSeqD, PD.iRng1D, PD.iRng2D, PD.sForD, PD.tLcV, PD.tLcR, PD.tYesD, PD.wipeD, PD.tMethL, PD.rAppD, PD.isRefL, PD.tDicV, PD.keyOf, PD.asDic, PD.srcD, PD.iAnyD, PD.iZipD, PD.iEnumD, PD.tDcV, PD.tDicR, PD.gSubX, PD.rSetX, PD.rIxX, PD.rInD, PD.rInX, PD.rInY, PD.rSumD, PD.tRevLD, PD.tRevX, PD.rSixD, PD.rJoinD, PD.tMethS, PD.rLixD, PD.rPopD, PD.rExtD, PD.tMethA, PD.rSetD, PD.rReprD, PD.eqk_int, PD.eqd_int, PD.eqk_str, PD.eqd_str, PD.eqk_lst0, PD.eqd_lst0, PD.eqk_tup0, PD.eqd_tup0, PD.tdOf, PD.rInW, PD.rIxW, PD.rSetW, PD.gSubW, PD.rLenW, PD.rGetW, PD.rGetAt, PD.tMethW, PD.rSetdW, PD.tDispR, PD.tPairsD, PD.putAll, PD.tDisp1T, PD.gSeqD, PD.rListW, PD.tLenSetD, ↓PM.asSeq_sq, ↓PM.asDic_sq, ↓PM.srcD_sq, ↓PM.tdOf_sq, ↓PM.rIxD_sq, Option.map_some, Option.bind_some, PD.spFn, PD.spDraw, reduceIte, true_and, and_true, or_false, false_or, Bool.not_true, Bool.not_false, Bool.false_eq_true, List.length_cons, List.length_nil, List.set_cons_zero, List.set_cons_succ, PD.HD.set_same, PD.HD.tick_hp, PD.HD.tick_c, PD.HD.tick_dk, PD.HD.set_c, PD.HD.set_dk, $xs,*])
def spSets : SpD := fun ds S Q => ∃ T : Tri, ds = [enc T.m1, enc T.m2, enc T.m3, enc (every T.m1.L)] ∧ Q (.bl true) S
theorem sets_len (ds : List D) (S : HD) (Q : QD) (h : spSets ds S Q) : ds.length = 4 := by
  obtain ⟨_, rfl, _⟩ := h
  rfl
theorem sets_ok (ds : List D) (S : HD) (Q : QD) (h : spSets ds S Q) : K25.rd__law_sets_right (spHow .both) (spHow .either) (spHow .less) spSmall spSize0 (ends Q) (pad 4 ds) S := by
  obtain ⟨T, rfl, q⟩ := h
  have a1 := arg1 T
  have a2 := arg2 T
  have a3 := arg3 T
  have aE := argE T
  unfold K25.rd__law_sets_right
  generalize hE : every T.m1.L = XE at aE
  generalize T.m1 = X1 at a1 q
  generalize T.m2 = X2 at a2 q
  generalize T.m3 = X3 at a3 q
  refine seq_step fun N1 hN1 => ?_
  try (walk_at "rdx")
  refine how_T a1 a2 fun A a sA => how_T a2 a1 fun B b sB => ?_
  obtain rfl := arg_eq a b sA sB (by decide)
  refine ⟨eqk_enc _ _, ?_⟩
  simp only [nrm_enc, eqd_enc, Bool.not_true, Bool.false_eq_true, if_false]
  try (walk_at "rdx")
  refine how_T a1 a2 fun A a sA => how_T a2 a1 fun B b sB => ?_
  obtain rfl := arg_eq a b sA sB (by decide)
  refine ⟨eqk_enc _ _, ?_⟩
  simp only [nrm_enc, eqd_enc, Bool.not_true, Bool.false_eq_true, if_false]
  refine hN1 _ _ ?_
  clear hN1 N1
  refine seq_step fun N1 hN1 => ?_
  try (walk_at "rdx")
  refine how_T a2 a3 fun A a sA => ?_
  try (walk_at "rdx")
  refine how_T a1 a fun B b sB => ?_
  try (walk_at "rdx")
  refine how_T a1 a2 fun C c sC => ?_
  try (walk_at "rdx")
  refine how_T a1 a3 fun D d sD => how_T c d fun E e sE => ?_
  obtain rfl := arg_eq b e sB sE (by decide)
  refine ⟨eqk_enc _ _, ?_⟩
  simp only [nrm_enc, eqd_enc, Bool.not_true, Bool.false_eq_true, if_false]
  refine hN1 _ _ ?_
  clear hN1 N1
  refine seq_step fun N1 hN1 => ?_
  try (walk_at "rdx")
  refine how_T a2 a3 fun A a sA => ?_
  try (walk_at "rdx")
  refine how_T a1 a fun B b sB => ?_
  try (walk_at "rdx")
  refine how_T a1 a2 fun C c sC => ?_
  try (walk_at "rdx")
  refine how_T a1 a3 fun D d sD => how_T c d fun E e sE => ?_
  obtain rfl := arg_eq b e sB sE (by decide)
  refine ⟨eqk_enc _ _, ?_⟩
  simp only [nrm_enc, eqd_enc, Bool.not_true, Bool.false_eq_true, if_false]
  refine hN1 _ _ ?_
  clear hN1 N1
  refine seq_step fun N1 hN1 => ?_
  try (walk_at "rdx")
  refine how_T a1 a2 fun A a sA => ?_
  try (walk_at "rdx")
  refine how_T aE a fun B b sB => ?_
  try (walk_at "rdx")
  refine how_T aE a1 fun C c sC => ?_
  try (walk_at "rdx")
  refine how_T aE a2 fun D d sD => how_T c d fun E e sE => ?_
  obtain rfl := arg_eq b e sB sE (by decide)
  refine ⟨eqk_enc _ _, ?_⟩
  simp only [nrm_enc, eqd_enc, Bool.not_true, Bool.false_eq_true, if_false]
  refine hN1 _ _ ?_
  clear hN1 N1
  refine seq_step fun N1 hN1 => ?_
  try (walk_at "rdx")
  refine how_T aE a1 fun A a sA => ?_
  try (walk_at "rdx")
  refine how_T aE a fun B b sB => ?_
  try (walk_at "rdx")
  refine small_T a1 fun C c sC => ?_
  obtain rfl := arg_eq b c sB sC (by decide)
  refine ⟨eqk_enc _ _, ?_⟩
  simp only [nrm_enc, eqd_enc, Bool.not_true, Bool.false_eq_true, if_false]
  try (walk_at "rdx")
  refine how_T a1 aE fun A a sA => ?_
  try (walk_at "rdx")
  refine small_T a1 fun C c sC => ?_
  obtain rfl := arg_eq a c sA sC (by decide)
  refine ⟨eqk_enc _ _, ?_⟩
  simp only [nrm_enc, eqd_enc, Bool.not_true, Bool.false_eq_true, if_false]
  refine hN1 _ _ ?_
  clear hN1 N1
  refine seq_step fun N1 hN1 => ?_
  try (walk_at "rdx")
  refine how_T a1 a2 fun A a sA => ?_
  try (walk_at "rdx")
  refine how_T a1 a2 fun B b sB => how_T a b fun C c sC => ?_
  try (walk_at "rdx")
  refine small_T a1 fun D d sD => ?_
  obtain rfl := arg_eq c d sC sD (by decide)
  refine ⟨eqk_enc _ _, ?_⟩
  simp only [nrm_enc, eqd_enc, Bool.not_true, Bool.false_eq_true, if_false]
  try (walk_at "rdx")
  refine how_T a1 a1 fun A a sA => ?_
  try (walk_at "rdx")
  refine small_T a1 fun C c sC => ?_
  obtain rfl := arg_eq a c sA sC (by decide)
  refine ⟨eqk_enc _ _, ?_⟩
  simp only [nrm_enc, eqd_enc, Bool.not_true, Bool.false_eq_true, if_false]
  refine hN1 _ _ ?_
  clear hN1 N1
  try (walk_at "rdx")
  refine how_T a1 a2 fun A a sA => ?_
  try (walk_at "rdx")
  refine how_T aE a2 fun B b sB => ?_
  try (walk_at "rdx")
  refine how_T a1 b fun C c sC => ?_
  obtain rfl := arg_eq a c sA sC (by decide)
  refine ⟨eqk_enc _ _, ?_⟩
  simp only [nrm_enc, eqd_enc, if_true]
  try (walk_at "rdx")
  refine how_T a1 a1 fun D d sD => size_T d (by decide) ?_
  try (walk_at "rdx")
  simp only [decide_true]
  exact fin.here q
end PM
end

section
/-! PN15: machines are equal just as their data are; words counted; the least word. -/
namespace PM
open PySem PySem.Spec PyProof.Rows PD
theorem eqvL_map {α : Type} {f : α → D} (h : ∀ x y, PyData.eqv (py (f x)) (py (f y)) = true → x = y) : ∀ xs ys : List α, PyData.eqvAll (pyL (xs.map f)) (pyL (ys.map f)) = true → xs = ys
  | [], [], _ => rfl
  | [], _ :: _, e => by simp [pyL, PyData.eqvAll] at e
  | _ :: _, [], e => by simp [pyL, PyData.eqvAll] at e
  | x :: xs, y :: ys, e => by
    simp only [List.map_cons, pyL, PyData.eqvAll, Bool.and_eq_true] at e
    rw [h x y e.1, eqvL_map h xs ys e.2]
theorem eqv_C (s t : Option Nat) (h : PyData.eqv (py (encC s)) (py (encC t)) = true) : s = t := by
  cases s with
  | none => cases t with
    | none => rfl
    | some t => simp [encC, py, PyData.eqv] at h
  | some s => cases t with
    | none => simp [encC, py, PyData.eqv] at h
    | some t => simp [encC, py, PyData.eqv] at h; exact congrArg some (Int.ofNat.inj h)
theorem eqv_R (s t : List (Option Nat)) (h : PyData.eqv (py (encR s)) (py (encR t)) = true) : s = t := by
  simp only [encR, py, PyData.eqv] at h
  exact eqvL_map eqv_C s t h
theorem eqv_B (s t : Bool) (h : PyData.eqv (py (.bl s)) (py (.bl t)) = true) : s = t := by
  cases s <;> cases t <;> first | rfl | (revert h; decide)
theorem eqd_one {A B : Mch} (h : eqd (enc A) (enc B) = true) : A = B := by
  simp only [eqd, enc, py, pyL, PyData.eqv, PyData.eqvAll, Bool.and_eq_true, Bool.and_true] at h
  obtain ⟨h1, h2, h3⟩ := h
  have e1 : A.L = B.L := Int.ofNat.inj (by simpa using h1)
  have e2 := eqvL_map eqv_R _ _ h2
  have e3 := eqvL_map eqv_B _ _ h3
  cases A; cases B
  simp_all
theorem eqd_two {A B : Mch} (h : A ≠ B) : eqd (enc A) (enc B) = false := by
  cases e : eqd (enc A) (enc B) with
  | false => rfl
  | true => exact (h (eqd_one e)).elim
/-! ### counts -/
def Tri.num (T : Tri) (F : F3) (n : Nat) : Nat := (wordsL T.m1.L n).countP (T.ev F)
theorem arg_A {T : Tri} {X : Mch} {F : F3} (aX : Arg T X F) (n : Nat) : X.A n 0 = (wordsL T.m1.L n).filter (T.ev F) := by
  rw [← due_eq, aX.L]
  exact List.filter_congr fun w hw => aX.acc w (wordsL_ok w hw).2
theorem arg_cnt {T : Tri} {X : Mch} {F : F3} (aX : Arg T X F) (n : Nat) : X.cnt n 0 = T.num F n := by
  unfold Mch.cnt Tri.num
  rw [arg_A aX, List.countP_eq_length_filter]
theorem num_or (T : Tri) (F G : F3) (n : Nat) : T.num (fun a b c => How.either.op (F a b c) (G a b c)) n + T.num (fun a b c => How.both.op (F a b c) (G a b c)) n = T.num F n + T.num G n := by
  unfold Tri.num
  induction wordsL T.m1.L n with
  | nil => rfl
  | cons w ws ih =>
    simp only [List.countP_cons]
    have e1 : T.ev (fun a b c => How.either.op (F a b c) (G a b c)) w = (T.ev F w || T.ev G w) := rfl
    have e2 : T.ev (fun a b c => How.both.op (F a b c) (G a b c)) w = (T.ev F w && T.ev G w) := rfl
    rw [e1, e2]
    cases T.ev F w <;> cases T.ev G w <;> simp <;> omega
theorem num_and (T : Tri) (F G : F3) (n : Nat) : T.num (fun a b c => How.less.op (F a b c) (G a b c)) n + T.num (fun a b c => How.both.op (F a b c) (G a b c)) n = T.num F n := by
  unfold Tri.num
  induction wordsL T.m1.L n with
  | nil => rfl
  | cons w ws ih =>
    simp only [List.countP_cons]
    have e1 : T.ev (fun a b c => How.less.op (F a b c) (G a b c)) w = (T.ev F w && !T.ev G w) := rfl
    have e2 : T.ev (fun a b c => How.both.op (F a b c) (G a b c)) w = (T.ev F w && T.ev G w) := rfl
    rw [e1, e2]
    cases T.ev F w <;> cases T.ev G w <;> simp <;> omega
/-! ### the least word -/
theorem wordsF_all (L : Nat) : ∀ w : List Nat, (∀ c ∈ w, c < L) → w ∈ wordsF L w.length
  | [], _ => List.mem_singleton.mpr rfl
  | c :: w, h => List.mem_flatMap.mpr ⟨c, List.mem_range.mpr (h c List.mem_cons_self), List.mem_map.mpr ⟨w, wordsF_all L w fun x hx => h x (List.mem_cons_of_mem _ hx), rfl⟩⟩
theorem wordsF_srt (L : Nat) : ∀ n, (wordsF L n).Pairwise llt
  | 0 => List.pairwise_singleton _ _
  | n + 1 => by
    show ((List.range L).flatMap fun c => (wordsF L n).map (c :: ·)).Pairwise llt
    rw [List.pairwise_flatMap]
    refine ⟨fun c _ => ?_, ?_⟩
    · rw [List.pairwise_map]
      exact (wordsF_srt L n).imp fun h => .inr ⟨rfl, h⟩
    · refine List.pairwise_lt_range.imp fun {a b} hab x hx y hy => ?_
      obtain ⟨u, _, rfl⟩ := List.mem_map.mp hx
      obtain ⟨v, _, rfl⟩ := List.mem_map.mp hy
      exact .inl hab
theorem A_srt (M : Mch) (n : Nat) : (M.A n 0).Pairwise llt := by
  rw [← due_eq, wordsL_F]
  exact (wordsF_srt _ _).filter _
theorem A_mem {M : Mch} {w : List Nat} (h1 : M.acc w = true) (h2 : WordOk M w) : w ∈ M.A w.length 0 := by
  rw [← due_eq, wordsL_F]
  exact List.mem_filter.mpr ⟨wordsF_all _ w h2, h1⟩
/-- the least word of a machine stands first -/
theorem A_first {M : Mch} {w : List Nat} (h1 : M.acc w = true) (h2 : WordOk M w) (h3 : ∀ v, M.acc v = true → wle w v) : (M.A w.length 0).take 1 = [w] := by
  have hm := A_mem h1 h2
  have hs := A_srt M w.length
  have hA : ∀ v ∈ M.A w.length 0, M.acc v = true := fun v hv => (A_acc M hv).1
  have hL : ∀ v ∈ M.A w.length 0, v.length = w.length := fun v hv => (A_acc M hv).2.2
  cases hc : M.A w.length 0 with
  | nil => rw [hc] at hm; cases hm
  | cons x xs =>
    rw [hc] at hm hs hA hL
    show [x] = [w]
    rcases List.mem_cons.mp hm with e | hm
    · rw [e]
    · have h := (List.pairwise_cons.mp hs).1 w hm
      have hx := hL x List.mem_cons_self
      exact congrArg (fun z => [z]) (wle_anti (.inr (.inr ⟨hx, h⟩)) (h3 x (hA x List.mem_cons_self)))
theorem A_below {M : Mch} {w : List Nat} (h3 : ∀ v, M.acc v = true → wle w v) {n : Nat} (hn : n < w.length) : M.cnt n 0 = 0 := by
  unfold Mch.cnt
  cases hc : M.A n 0 with
  | nil => rfl
  | cons x xs =>
    have hx : x ∈ M.A n 0 := by rw [hc]; exact List.mem_cons_self
    obtain ⟨h1, _, h2⟩ := A_acc M hx
    rcases h3 x h1 with e | e | e
    · rw [e] at hn; omega
    · omega
    · omega
/-- few pairs: the least word that parts two machines is short -/
theorem apart_short {X Y : Mch} (oX : X.Ok) (oY : Y.Ok) (hb : Few X Y) {w : List Nat} (h : ApartOk X Y (some w)) : w.length ≤ 400 := by
  obtain ⟨U, hU, hin⟩ := hb
  obtain ⟨h1, h2, h3⟩ := h
  have pre : ∀ i, pairOf X Y (w.take i) ≠ (none, none) := fun i z => h2 (by
    have z1 : X.run (some 0) (w.take i) = none := congrArg Prod.fst z
    have z2 : Y.run (some 0) (w.take i) = none := congrArg Prod.snd z
    have e := List.take_append_drop i w
    rw [← e, acc_app, acc_app, z1, z2]
    rfl)
  have ok : ∀ i, WordOk X (w.take i) := fun i c hc => h1 c (List.mem_of_mem_take hc)
  have nd : ((List.range w.length).map fun i => pairOf X Y (w.take i)).Nodup := by
    rw [List.nodup_iff_pairwise_ne, List.pairwise_map]
    refine (List.pairwise_lt_range (n := w.length)).imp_of_mem fun {i j} hi hj hij e => ?_
    have hj := List.mem_range.mp hj
    have e1 : X.run (some 0) (w.take i) = X.run (some 0) (w.take j) := congrArg Prod.fst e
    have e2 : Y.run (some 0) (w.take i) = Y.run (some 0) (w.take j) := congrArg Prod.snd e
    have d : X.acc (w.take i ++ w.drop j) ≠ Y.acc (w.take i ++ w.drop j) := by
      rw [acc_app, acc_app, e1, e2, ← acc_app, ← acc_app, List.take_append_drop]
      exact h2
    have := h3 _ d
    have hl : (w.take i ++ w.drop j).length < w.length := by
      rw [List.length_append, List.length_take, List.length_drop]
      omega
    rcases this with z | z | z
    · rw [← z] at hl; omega
    · omega
    · omega
  have := sub_len (l := (List.range w.length).map fun i => pairOf X Y (w.take i)) (m := U) nd fun p hp => by
    obtain ⟨i, _, rfl⟩ := List.mem_map.mp hp
    exact hin _ (ok i) (pre i)
  rw [List.length_map, List.length_range] at this
  omega
end PM
end

section
/-! PN16: counts add up. -/
namespace PM
open PySem PySem.Spec PyProof.Rows PD
local macro_rules | `(tactic| walk_at "rdx") => `(tactic| simp only [PD.pad, PD.gt_z, PD.gt_s, PD.st_z, PD.st_s, PD.sNextD, PD.sSeqD, PD.sBreakD, PD.sContD, PD.sDropD, PD.sRetD, PD.sRetND, PD.sIfD, PD.sNeverD, PD.sAsgD, PD.sPar2, PD.sPar3, PD.gNameD, PD.gNilD, PD.gConsD, PD.gTupD, PD.gSubD, PD.tNilD, PD.tConsD, PD.tTupD, PD.tLstV, PD.tLstR, PD.tBin, PD.tTst, PD.tAndD, PD.tOrD, PD.tNotD, PD.tIfD, PD.tAndV, PD.tOrV, PD.tNotV, PD.tUnD, PD.rNeg, PD.tCallD, PD.tSlot, PD.tCD, PD.tChainD, PD.rIsN, PD.rNotN, PD.rIsiD, PD.isi_non, PD.isi_bl, PD.isi_int, PD.isi_str, PD.isi_tup, PD.isi_lst, PD.isi_dic, PD.Ty.name, PD.rCmpI, PD.fLt, PD.fLe, PD.fGt, PD.fGe, PD.rAddD, PD.rSubD, PD.rFdivD, PD.rModD, PD.rPowD, PD.rMulD, PD.rAddR, PD.rMulR, PD.asSeq, PD.asLst, PD.rLenD, PD.rTupleD, PD.rListV, PD.rListR, PD.rIntD, PD.rBoolD, PD.rAbsD, PD.rIxD, PD.oNone, PD.oSome, PD.tSlD, PD.rSlD, PD.tRevTD, PD.rEqD, PD.rNeD, PD.nrm_non, PD.nrm_bl, PD.nrm_int, PD.nrm_str, PD.nrm_tup, PD.nrm_lst, PD.nrm_dic, PD.nrm_ref, PD.iSeqD, PD.iRng1D, PD.iRng2D, PD.sForD, PD.tLcV, PD.tLcR, PD.tYesD, PD.wipeD, PD.tMethL, PD.rAppD, PD.isRefL, PD.tDicV, PD.keyOf, PD.asDic, PD.srcD, PD.iAnyD, PD.iZipD, PD.iEnumD, PD.tDcV, PD.tDicR, PD.gSubX, PD.rSetX, PD.rIxX, PD.rInD, PD.rInX, PD.rInY, PD.rSumD, PD.tRevLD, PD.tRevX, PD.rSixD, PD.rJoinD, PD.tMethS, PD.rLixD, PD.rPopD, PD.rExtD, PD.tMethA, PD.rSetD, PD.rReprD, PD.eqk_int, PD.eqd_int, PD.eqk_str, PD.eqd_str, PD.eqk_lst0, PD.eqd_lst0, PD.eqk_tup0, PD.eqd_tup0, PD.tdOf, PD.rInW, PD.rIxW, PD.rSetW, PD.gSubW, PD.rLenW, PD.rGetW, PD.rGetAt, PD.tMethW, PD.rSetdW, PD.tDispR, PD.tPairsD, PD.putAll, PD.tDisp1T, PD.gSeqD, PD.rListW, PD.tLenSetD, ↓PM.asSeq_sq, ↓PM.asDic_sq, ↓PM.srcD_sq, ↓PM.tdOf_sq, ↓PM.rIxD_sq, Option.map_some, Option.bind_some, PD.spFn, PD.spDraw, reduceIte, true_and, and_true, or_false, false_or, Bool.not_true, Bool.not_false, Bool.false_eq_true, List.length_cons, List.length_nil, List.set_cons_zero, List.set_cons_succ, PD.HD.set_same, PD.HD.tick_hp, PD.HD.tick_c, PD.HD.tick_dk, PD.HD.set_c, PD.HD.set_dk])
local macro_rules | `(tactic| simp_all only [$xs,*]) => `(tactic| simp only [PD.pad, PD.gt_z, PD.gt_s, PD.st_z, PD.st_s, PD.sNextD, PD.sSeqD, PD.sBreakD, PD.sContD, PD.sDropD, PD.sRetD, PD.sRetND, PD.sIfD, PD.sNeverD, PD.sAsgD, PD.sPar2, PD.sPar3, PD.gNameD, PD.gNilD, PD.gConsD, PD.gTupD, PD.gSubD, PD.tNilD, PD.tConsD, PD.tTupD, PD.tLstV, PD.tLstR, PD.tBin, PD.tTst, PD.tAndD, PD.tOrD, PD.tNotD, PD.tIfD, PD.tAndV, PD.tOrV, PD.tNotV, PD.tUnD, PD.rNeg, PD.tCallD, PD.tSlot, PD.tCD, PD.tChainD, PD.rIsN, PD.rNotN, PD.rIsiD, PD.isi_non, PD.isi_bl, PD.isi_int, PD.isi_str, PD.isi_tup, PD.isi_lst, PD.isi_dic, PD.Ty.name, PD.rCmpI, PD.fLt, PD.fLe, PD.fGt, PD.fGe, PD.rAddD, PD.rSubD, PD.rFdivD, PD.rModD, PD.rPowD, PD.rMulD, PD.rAddR, PD.rMulR, PD.asSeq, PD.asLst, PD.rLenD, PD.rTupleD, PD.rListV, PD.rListR, PD.rIntD, PD.rBoolD, PD.rAbsD, PD.rIxD, PD.oNone, PD.oSome, PD.tSlD, PD.rSlD, PD.tRevTD, PD.rEqD, PD.rNeD, PD.nrm_non, PD.nrm_bl, PD.nrm_int, PD.nrm_str, PD.nrm_tup, PD.nrm_lst, PD.nrm_dic, PD.nrm_ref, PD.iSeqD, PD.iRng1D, PD.iRng2D, PD.sForD, PD.tLcV, PD.tLcR, PD.tYesD, PD.wipeD, PD.tMethL, PD.rAppD, PD.isRefL, PD.tDicV, PD.keyOf, PD.asDic, PD.srcD, PD.iAnyD, PD.iZipD, PD.iEnumD, PD.tDcV, PD.tDicR, PD.gSubX, PD.rSetX, PD.rIxX, PD.rInD, PD.rInX, PD.rInY, PD.rSumD, PD.tRevLD, PD.tRevX, PD.rSixD, PD.rJoinD, PD.tMethS, PD.rLixD, PD.rPopD, PD.rExtD, PD.tMethA, PD.rSetD, PD.rReprD, PD.eqk_int, PD.eqd_int, PD.eqk_str, PD.eqd_str, PD.eqk_lst0, PD.eqd_lst0, PD.eqk_tup0, PD.eqd_tup0, PD.tdOf, PD.rInW, PD.rIxW, PD.rSetW, PD.gSubW, PD.rLenW, PD.rGetW, PD.rGetAt, PD.tMethW, PD.rSetdW, PD.tDispR, PD.tPairsD, PD.putAll, PD.tDisp1T, PD.gSeqD, PD.rListW, PD.tLenSetD, ↓PM.asSeq_sq, ↓PM.asDic_sq, ↓PM.srcD_sq, ↓PM.tdOf_sq, ↓PM.rIxD_sq, Option.map_some, Option.bind_some, PD.spFn, PD.spDraw, reduceIte, true_and, and_true, or_false, false_or, Bool.not_true, Bool.not_false, Bool.false_eq_true, List.length_cons, List.length_nil, List.set_cons_zero, List.set_cons_succ, PD.HD.set_same, PD.HD.tick_hp, PD.HD.tick_c, PD.HD.tick_dk, PD.HD.set_c, PD.HD.set_dk, $xs,*])
theorem not_off {b : Bool} {p q : Prop} (h : b = true) (k : q) : if (!b) = true then p else q := by
  subst h
  exact k
theorem not_on {b : Bool} {p q : Prop} (h : b = false) (k : p) : if (!b) = true then p else q := by
  subst h
  exact k
theorem yes_off {b : Bool} {p q : Prop} (h : b = false) (k : q) : if b = true then p else q := by
  subst h
  exact k
def spCnts : SpD := fun ds S Q => ∃ (T : Tri) (X Y : Mch) (F G : F3) (n : Nat), ds = [enc X, enc Y, .int (n : Nat)] ∧ Arg T X F ∧ Arg T Y G ∧ n ≤ 1000 ∧ Q (.bl true) S
theorem cnts_len (ds : List D) (S : HD) (Q : QD) (h : spCnts ds S Q) : ds.length = 3 := by
  obtain ⟨_, _, _, _, _, _, rfl, _⟩ := h
  rfl
theorem cnts_ok (ds : List D) (S : HD) (Q : QD) (h : spCnts ds S Q) : K25.rd__law_counts_right spCount (spHow .either) (spHow .both) (spHow .less) (ends Q) (pad 4 ds) S := by
  obtain ⟨T, X, Y, F, G, n, rfl, aX, aY, hn, q⟩ := h
  unfold K25.rd__law_counts_right
  refine seq_step fun N1 hN1 => ?_
  try (walk_at "rdx")
  refine how_T aX aY fun A a sA => ⟨A, n, rfl, a.ok, hn, ?_⟩
  try (walk_at "rdx")
  refine how_T aX aY fun B b sB => ⟨B, n, rfl, b.ok, hn, ?_⟩
  simp only [cntD]
  refine ⟨by decide, fun p hp => hN1 _ _ ?_⟩
  clear hN1 N1
  refine seq_step fun N1 hN1 => ?_
  try (walk_at "rdx")
  refine ⟨⟨_, rfl⟩, ?_⟩
  refine how_T aX aY fun C c sC => ⟨C, n, rfl, c.ok, hn, ?_⟩
  try (walk_at "rdx")
  refine how_T aX aY fun B' b' sB' => ⟨B', n, rfl, b'.ok, hn, ?_⟩
  obtain rfl := arg_eq b b' sB sB' (fun _ _ _ => rfl)
  simp only [cntD]
  try (walk_at "rdx")
  refine ⟨by decide, hN1 _ _ ?_⟩
  clear hN1 N1
  rw [HD.set_set, List.singleton_append]
  have n1 := num_or T F G n
  have n2 := num_and T F G n
  rw [← arg_cnt a, ← arg_cnt b, ← arg_cnt aX, ← arg_cnt aY] at n1
  rw [← arg_cnt c, ← arg_cnt b, ← arg_cnt aX] at n2
  rw [show ((A.cnt n 0 : Nat) : Int) + (B.cnt n 0 : Nat) = (X.cnt n 0 : Nat) + (Y.cnt n 0 : Nat) by omega]
  rw [show ((C.cnt n 0 : Nat) : Int) + (B.cnt n 0 : Nat) = (X.cnt n 0 : Nat) by omega]
  try (walk_at "rdx")
  refine ⟨X, n, rfl, aX.ok, hn, Y, n, rfl, aY.ok, hn, ?_⟩
  simp only [cntD]
  try (walk_at "rdx")
  refine ⟨X, n, rfl, aX.ok, hn, ?_⟩
  simp only [cntD]
  try (walk_at "rdx")
  refine ⟨by decide, eqk_of rfl rfl (by simp [dep, depL]), ?_⟩
  rw [eqd_self (d := D.lst [D.int ((X.cnt n 0 : Nat) + (Y.cnt n 0 : Nat)), D.int (X.cnt n 0 : Nat)]) rfl]
  exact ((Up.refl S).set hp).fin (n := 0) q
def spParts : SpD := fun ds S Q => ∃ (T : Tri) (X Y : Mch) (F G : F3), ds = [enc X, enc Y] ∧ Arg T X F ∧ Arg T Y G ∧ (X.rows.length + 1) * (Y.rows.length + 1) ≤ 10000 ∧ Q (.bl true) S
theorem parts_len (ds : List D) (S : HD) (Q : QD) (h : spParts ds S Q) : ds.length = 2 := by
  obtain ⟨_, _, _, _, _, rfl, _⟩ := h
  rfl
theorem parts_ok (ds : List D) (S : HD) (Q : QD) (h : spParts ds S Q) : K25.rd__law_apart_right spApart spSmall spSize0 (spHow .less) (spHow .either) spIsOf spTold spCount (ends Q) (pad 5 ds) S := by
  obtain ⟨T, X, Y, F, G, rfl, aX, aY, hn, q⟩ := h
  have hL : X.L = Y.L := aX.L.trans aY.L.symm
  unfold K25.rd__law_apart_right
  refine seq_step fun N1 hN1 => ?_
  try (walk_at "rdx")
  refine ⟨X, Y, rfl, aX.ok, aY.ok, hL, hn, fun r hr _ => hN1 _ _ ?_⟩
  clear hN1 N1
  cases r with
  | none =>
    refine seq_step fun N1 hN1 => ?_
    try (walk_at "rdx")
    refine small_T aX fun A a sA => ?_
    try (walk_at "rdx")
    refine small_T aY fun B b sB => ?_
    try (walk_at "rdx")
    obtain rfl : A = B := smallest_eq a.ok b.ok sA sB (a.L.trans b.L.symm) fun w => by
      rw [arg_acc a aX (fun _ _ _ => rfl), arg_acc b aY (fun _ _ _ => rfl)]
      exact hr w
    simp only [nrm_enc, eqd_enc, eqk_enc]
    refine ⟨trivial, rfl, ?_⟩
    refine not_off rfl ?_
    refine ⟨Y, X, rfl, aY.ok, aX.ok, hL.symm, by rw [Nat.mul_comm]; exact hn, fun r' hr' _ => ?_⟩
    obtain rfl := apart_one (r := none) (apart_swap hL hr) hr'
    refine ⟨rfl, ?_⟩
    refine not_off rfl ?_
    refine hN1 _ _ ?_
    clear hN1 N1
    refine seq_step fun N1 hN1 => ?_
    try (walk_at "rdx")
    rw [show isN D.non = true from rfl, if_pos rfl]
    have hz : ∀ w, (X.acc w && !X.acc w) = false := fun w => by cases X.acc w <;> rfl
    have z0 : eqd (D.int 0) (D.int 0) = true := rfl
    refine how_T aX aY fun B b sB => ⟨B, rfl, b.ok, fun v => ?_, rfl, ?_⟩
    · by_cases hv : WordOk T.m1 v
      · rw [b.acc v hv]
        have := hr v
        rw [aX.acc v hv, aY.acc v hv] at this
        show (T.ev F v && !T.ev G v) = false
        rw [this]
        cases T.ev G v <;> rfl
      · cases hb : B.acc v with
        | false => rfl
        | true => exact (hv (wok_L b.L (acc_ok b.ok (s := 0) hb))).elim
    show spHow .less [enc Y, enc X] S _
    refine how_T aY aX fun C c sC => ⟨C, rfl, c.ok, fun v => ?_, rfl, fin.here q⟩
    · by_cases hv : WordOk T.m1 v
      · rw [c.acc v hv]
        have := hr v
        rw [aX.acc v hv, aY.acc v hv] at this
        show (T.ev G v && !T.ev F v) = false
        rw [this]
        cases T.ev G v <;> rfl
      · cases hb : C.acc v with
        | false => rfl
        | true => exact (hv (wok_L c.L (acc_ok c.ok (s := 0) hb))).elim
  | some w =>
    refine seq_step fun N1 hN1 => ?_
    try (walk_at "rdx")
    refine small_T aX fun A a sA => ?_
    try (walk_at "rdx")
    refine small_T aY fun B b sB => ?_
    try (walk_at "rdx")
    have hAB : A ≠ B := fun e => hr.2.1 (by
      rw [← arg_acc a aX (fun _ _ _ => rfl), ← arg_acc b aY (fun _ _ _ => rfl), e])
    simp only [nrm_enc, eqd_two hAB, eqk_enc]
    refine ⟨trivial, rfl, ?_⟩
    refine not_off rfl ?_
    refine ⟨Y, X, rfl, aY.ok, aX.ok, hL.symm, by rw [Nat.mul_comm]; exact hn, fun r' hr' _ => ?_⟩
    obtain rfl := apart_one (apart_swap hL hr) hr'
    refine ⟨by simp only [nrm_str, eqk_str], not_off (eqd_self (d := D.str (wstr w)) (wstr_strOk fun c hc => Nat.lt_of_lt_of_le (hr.1 c hc) aX.ok.l3)) ?_⟩
    refine hN1 _ _ ?_
    clear hN1 N1
    refine seq_step fun N1 hN1 => ?_
    try (walk_at "rdx")
    rw [show isN (D.str (wstr w)) = false from rfl]
    simp only [Bool.false_eq_true, if_false]
    refine hN1 _ _ ?_
    clear hN1 N1
    refine seq_step fun N1 hN1 => ?_
    try (walk_at "rdx")
    refine how_T aX aY fun C c sC => ?_
    try (walk_at "rdx")
    refine how_T aY aX fun Dm d sD => how_T c d fun U u sU => hN1 _ _ ?_
    clear hN1 N1
    have U0 : ∀ v, U.acc v = true ↔ X.acc v ≠ Y.acc v := fun v => by
      by_cases hv : WordOk T.m1 v
      · rw [u.acc v hv, aX.acc v hv, aY.acc v hv]
        show (T.ev F v && !T.ev G v || T.ev G v && !T.ev F v) = true ↔ _
        cases T.ev F v <;> cases T.ev G v <;> decide
      · have no : ∀ {Z : Mch} {H : F3}, Arg T Z H → Z.acc v = false := fun {Z H} aZ => by
          cases hz : Z.acc v with
          | false => rfl
          | true => exact (hv (wok_L aZ.L (acc_ok aZ.ok (s := 0) hz))).elim
        rw [no u, no aX, no aY]
        decide
    have hs := apart_short aX.ok aY.ok (arg_few aX aY) hr
    have hw : WordOk U w := wok_L (aX.L.trans u.L.symm) hr.1
    have hle : ∀ v, U.acc v = true → wle w v := fun v hv => hr.2.2 v ((U0 v).mp hv)
    have hf := A_first ((U0 w).mpr hr.2.1) hw hle
    have hb := fun {n : Nat} => A_below hle (n := n)
    refine seq_step fun N1 hN1 => ?_
    try (walk_at "rdx")
    refine ⟨X, w, rfl, aX.ok, hr.1, ?_⟩
    refine ⟨Y, w, rfl, aY.ok, wok_L hL hr.1, ?_⟩
    have hsl : (sizeLine : Nat) = 16777216 := rfl
    have wl : (wstr w).length = w.length := wstr_len w
    have sw : okE (D.str (wstr w)) = true := wstr_strOk fun c hc => Nat.lt_of_lt_of_le (hr.1 c hc) aX.ok.l3
    have ne := hr.2.1
    refine ⟨rfl, yes_off (by revert ne; cases X.acc w <;> cases Y.acc w <;> first | (exact fun _ => rfl) | (exact fun h => (h rfl).elim)) ?_⟩
    rw [wl]
    refine ⟨by omega, U, w.length, 1, rfl, u.ok, by omega, by decide, ?_⟩
    rw [hf]
    refine ⟨by decide, eqk_of (d := D.tup [wD w]) (by simp only [okE, okEL, wD]; rw [show PyData.strOk (wstr w) = true from sw]; rfl) (by simp only [okE, okEL]; rw [show PyData.strOk (wstr w) = true from sw]; rfl) (by simp [dep, depL, wD]), not_off (eqd_self (d := D.tup [wD w]) (by simp only [okE, okEL, wD]; rw [show PyData.strOk (wstr w) = true from sw]; rfl)) ?_⟩
    refine hN1 _ _ ?_
    clear hN1 N1
    try (walk_at "rdx")
    rw [wl]
    refine ⟨by omega, by omega, by rw [rngD_len, Int.toNat_natCast]; omega, ?_⟩
    refine lcD_go (fun i acc S' => acc = [] ∧ S' = S) ⟨rfl, rfl⟩ (fun i d acc S' N hi ⟨e1, e2⟩ kk => ⟨trivial, ?_⟩) fun acc S' ⟨e1, e2⟩ => ?_
    · obtain ⟨hi1, rfl⟩ := rngD_get hi
      rw [Int.toNat_natCast] at hi1
      subst e1 e2
      rw [Int.zero_add]
      try (walk_at "rdx")
      refine ⟨U, i, rfl, u.ok, by omega, ?_⟩
      rw [cntD, hb hi1]
      exact kk _ _ ⟨rfl, rfl⟩
    · subst e1 e2
      exact ⟨trivial, by decide, fin.here q⟩
end PM
end

section
/-! L25: the law of k25, and all its functions together. -/
namespace K25
open PySem PySem.Spec PyProof.Rows PD PM
local macro_rules | `(tactic| walk_at "rdx") => `(tactic| simp only [PD.pad, PD.gt_z, PD.gt_s, PD.st_z, PD.st_s, PD.sNextD, PD.sSeqD, PD.sBreakD, PD.sContD, PD.sDropD, PD.sRetD, PD.sRetND, PD.sIfD, PD.sNeverD, PD.sAsgD, PD.sPar2, PD.sPar3, PD.gNameD, PD.gNilD, PD.gConsD, PD.gTupD, PD.gSubD, PD.tNilD, PD.tConsD, PD.tTupD, PD.tLstV, PD.tLstR, PD.tBin, PD.tTst, PD.tAndD, PD.tOrD, PD.tNotD, PD.tIfD, PD.tAndV, PD.tOrV, PD.tNotV, PD.tUnD, PD.rNeg, PD.tCallD, PD.tSlot, PD.tCD, PD.tChainD, PD.rIsN, PD.rNotN, PD.rIsiD, PD.isi_non, PD.isi_bl, PD.isi_int, PD.isi_str, PD.isi_tup, PD.isi_lst, PD.isi_dic, PD.Ty.name, PD.rCmpI, PD.fLt, PD.fLe, PD.fGt, PD.fGe, PD.rAddD, PD.rSubD, PD.rFdivD, PD.rModD, PD.rPowD, PD.rMulD, PD.rAddR, PD.rMulR, PD.asSeq, PD.asLst, PD.rLenD, PD.rTupleD, PD.rListV, PD.rListR, PD.rIntD, PD.rBoolD, PD.rAbsD, PD.rIxD, PD.oNone, PD.oSome, PD.tSlD, PD.rSlD, PD.tRevTD, PD.rEqD, PD.rNeD, PD.nrm_non, PD.nrm_bl, PD.nrm_int, PD.nrm_str, PD.nrm_tup, PD.nrm_lst, PD.nrm_dic, PD.nrm_ref, PD.iSeqD, PD.iRng1D, PD.iRng2D, PD.sForD, PD.tLcV, PD.tLcR, PD.tYesD, PD.wipeD, PD.tMethL, PD.rAppD, PD.isRefL, PD.tDicV, PD.keyOf, PD.asDic, PD.srcD, PD.iAnyD, PD.iZipD, PD.iEnumD, PD.tDcV, PD.tDicR, PD.gSubX, PD.rSetX, PD.rIxX, PD.rInD, PD.rInX, PD.rInY, PD.rSumD, PD.tRevLD, PD.tRevX, PD.rSixD, PD.rJoinD, PD.tMethS, PD.rLixD, PD.rPopD, PD.rExtD, PD.tMethA, PD.rSetD, PD.rReprD, PD.eqk_int, PD.eqd_int, PD.eqk_str, PD.eqd_str, PD.eqk_lst0, PD.eqd_lst0, PD.eqk_tup0, PD.eqd_tup0, PD.tdOf, PD.rInW, PD.rIxW, PD.rSetW, PD.gSubW, PD.rLenW, PD.rGetW, PD.rGetAt, PD.tMethW, PD.rSetdW, PD.tDispR, PD.tPairsD, PD.putAll, PD.tDisp1T, PD.gSeqD, PD.rListW, PD.tLenSetD, ↓PM.asSeq_sq, ↓PM.asDic_sq, ↓PM.srcD_sq, ↓PM.tdOf_sq, ↓PM.rIxD_sq, Option.map_some, Option.bind_some, PD.spFn, PD.spDraw, reduceIte, true_and, and_true, or_false, false_or, Bool.not_true, Bool.not_false, Bool.false_eq_true, List.length_cons, List.length_nil, List.set_cons_zero, List.set_cons_succ, PD.HD.set_same, PD.HD.tick_hp, PD.HD.tick_c, PD.HD.tick_dk, PD.HD.set_c, PD.HD.set_dk])
local macro_rules | `(tactic| simp_all only [$xs,*]) => `(tactic| simp only [PD.pad, PD.gt_z, PD.gt_s, PD.st_z, PD.st_s, PD.sNextD, PD.sSeqD, PD.sBreakD, PD.sContD, PD.sDropD, PD.sRetD, PD.sRetND, PD.sIfD, PD.sNeverD, PD.sAsgD, PD.sPar2, PD.sPar3, PD.gNameD, PD.gNilD, PD.gConsD, PD.gTupD, PD.gSubD, PD.tNilD, PD.tConsD, PD.tTupD, PD.tLstV, PD.tLstR, PD.tBin, PD.tTst, PD.tAndD, PD.tOrD, PD.tNotD, PD.tIfD, PD.tAndV, PD.tOrV, PD.tNotV, PD.tUnD, PD.rNeg, PD.tCallD, PD.tSlot, PD.tCD, PD.tChainD, PD.rIsN, PD.rNotN, PD.rIsiD, PD.isi_non, PD.isi_bl, PD.isi_int, PD.isi_str, PD.isi_tup, PD.isi_lst, PD.isi_dic, PD.Ty.name, PD.rCmpI, PD.fLt, PD.fLe, PD.fGt, PD.fGe, PD.rAddD, PD.rSubD, PD.rFdivD, PD.rModD, PD.rPowD, PD.rMulD, PD.rAddR, PD.rMulR, PD.asSeq, PD.asLst, PD.rLenD, PD.rTupleD, PD.rListV, PD.rListR, PD.rIntD, PD.rBoolD, PD.rAbsD, PD.rIxD, PD.oNone, PD.oSome, PD.tSlD, PD.rSlD, PD.tRevTD, PD.rEqD, PD.rNeD, PD.nrm_non, PD.nrm_bl, PD.nrm_int, PD.nrm_str, PD.nrm_tup, PD.nrm_lst, PD.nrm_dic, PD.nrm_ref, PD.iSeqD, PD.iRng1D, PD.iRng2D, PD.sForD, PD.tLcV, PD.tLcR, PD.tYesD, PD.wipeD, PD.tMethL, PD.rAppD, PD.isRefL, PD.tDicV, PD.keyOf, PD.asDic, PD.srcD, PD.iAnyD, PD.iZipD, PD.iEnumD, PD.tDcV, PD.tDicR, PD.gSubX, PD.rSetX, PD.rIxX, PD.rInD, PD.rInX, PD.rInY, PD.rSumD, PD.tRevLD, PD.tRevX, PD.rSixD, PD.rJoinD, PD.tMethS, PD.rLixD, PD.rPopD, PD.rExtD, PD.tMethA, PD.rSetD, PD.rReprD, PD.eqk_int, PD.eqd_int, PD.eqk_str, PD.eqd_str, PD.eqk_lst0, PD.eqd_lst0, PD.eqk_tup0, PD.eqd_tup0, PD.tdOf, PD.rInW, PD.rIxW, PD.rSetW, PD.gSubW, PD.rLenW, PD.rGetW, PD.rGetAt, PD.tMethW, PD.rSetdW, PD.tDispR, PD.tPairsD, PD.putAll, PD.tDisp1T, PD.gSeqD, PD.rListW, PD.tLenSetD, ↓PM.asSeq_sq, ↓PM.asDic_sq, ↓PM.srcD_sq, ↓PM.tdOf_sq, ↓PM.rIxD_sq, Option.map_some, Option.bind_some, PD.spFn, PD.spDraw, reduceIte, true_and, and_true, or_false, false_or, Bool.not_true, Bool.not_false, Bool.false_eq_true, List.length_cons, List.length_nil, List.set_cons_zero, List.set_cons_succ, PD.HD.set_same, PD.HD.tick_hp, PD.HD.tick_c, PD.HD.tick_dk, PD.HD.set_c, PD.HD.set_dk, $xs,*])
def spMach6 : SpD := fun ds S Q => ∃ (L : Nat), ds = [.deck, .int (L : Nat), .int 6] ∧ 1 ≤ L ∧ L ≤ 3 ∧ S.c + 1000 ≤ 1000000000000 ∧ ∀ M : Mch, M.Ok → M.L = L → M.rows.length ≤ 6 → Q (enc M) (S.tick 1000)
theorem mach6_len (ds : List D) (S : HD) (Q : QD) (h : spMach6 ds S Q) : ds.length = 3 := by
  obtain ⟨_, rfl, _⟩ := h
  rfl
theorem mach6_ok (ds : List D) (S : HD) (Q : QD) (h : spMach6 ds S Q) : rd__law_machine spDraw spOne (ends Q) (pad 12 ds) S := by
  obtain ⟨L, rfl, l1, l3, hc, q⟩ := h
  refine machD_ok _ _ _ ⟨L, 6, rfl, by omega, by omega, by decide, by decide, hc, fun M hM => ?_⟩
  obtain ⟨A, rfl, ok, hL, hl⟩ := mach_conv l1 l3 (by omega) hM
  exact q A ok hL (by omega)
theorem every_row : ∀ n : Nat, (List.replicate n [D.int 0]).flatten = (List.replicate n (some 0 : Option Nat)).map encC
  | 0 => rfl
  | n + 1 => by
    rw [List.replicate_succ, List.flatten_cons, every_row n, List.replicate_succ, List.map_cons]
    rfl
theorem every_enc (L : Nat) : D.tup [D.int (L : Nat), D.tup [D.tup (List.replicate ((L : Nat) : Int).toNat [D.int 0]).flatten], D.tup [D.bl true]] = enc (every L) := by
  rw [Int.toNat_natCast, every_row]
  rfl
theorem len_law (ds : List D) (S : HD) (Q : QD) (h : spLaw ds S Q) : ds.length = 1 := by
  obtain ⟨_, rfl, _⟩ := h
  rfl
theorem hq_law (ds : List D) (S : HD) (Q : QD) (h : spLaw ds S Q) : rd_law spDeck spDraw spMach6 spSets (spHow .both) (spHow .either) (spHow .less) spSmall spCnts spParts (ends Q) (pad 11 ds) S := by
  obtain ⟨ns, rfl, hl, h1, h2, h3, q⟩ := h
  unfold rd_law
  generalize hT : sForD (iRng1D (tConsD (tCD (.int 6)) (tNilD))) _ _ = T1
  walk_at "rdx"
  refine ⟨⟨ns, rfl⟩, h3, fun dk => ?_⟩
  subst hT
  generalize hB : (sSeqD (sAsgD (tBin rAddD (tCD (.int 1)) (tCallD spDraw _)) (gNameD 3)) _ : TSD) = B1
  walk_at "rdx"
  refine ⟨by decide, loopD_go (fun i σ S' => (∃ v2 v3 v4 v5 v6 v7 v8 v9 v10, σ = [some (.lst (ns.map D.int)), some .deck, v2, v3, v4, v5, v6, v7, v8, v9, v10]) ∧ S'.c ≤ 5000 * i) ⟨⟨_, _, _, _, _, _, _, _, _, rfl⟩, Nat.le_refl _⟩ (fun i d σ S' N hi ⟨⟨v2, v3, v4, v5, v6, v7, v8, v9, v10, e1⟩, hc⟩ k => ⟨trivial, ?_⟩) fun σ S' ⟨_, _⟩ => ⟨trivial, fin.here (q S')⟩⟩
  obtain ⟨hi1, rfl⟩ := rngD_get hi
  have hi6 : i < 6 := hi1
  subst e1
  rw [Int.zero_add]
  walk_at "rdx"
  subst hB
  refine seq_step fun N1 hN1 => ?_
  walk_at "rdx"
  refine ⟨⟨by decide, by decide, by omega⟩, fun r r0 r1 => hN1 _ _ ?_⟩
  clear hN1 N1
  obtain ⟨L, e, hL1, hL3⟩ : ∃ L : Nat, 1 + r = (L : Nat) ∧ 1 ≤ L ∧ L ≤ 3 := ⟨(1 + r).toNat, by omega, by omega, by omega⟩
  rw [e]
  clear e r0 r1 r
  refine seq_step fun N1 hN1 => ?_
  walk_at "rdx"
  refine ⟨by decide, by decide, lcD_go (fun j acc S2 => S2.c ≤ S'.c + 1 + 1000 * j ∧ ∃ ms : List Mch, acc = ms.map enc ∧ ms.length = j ∧ ∀ M ∈ ms, M.Ok ∧ M.L = L ∧ M.rows.length ≤ 6) ⟨Nat.le_refl _, [], rfl, rfl, fun _ h => (by cases h)⟩ (fun j d acc S2 N2 hj ⟨c2, ms, e2, e3, e4⟩ kk => ⟨trivial, ?_⟩) fun acc S2 ⟨c2, ms, e2, e3, e4⟩ => ⟨trivial, ?_⟩⟩
  · obtain ⟨hj1, rfl⟩ := rngD_get hj
    have hj3 : j < 3 := hj1
    try (walk_at "rdx")
    refine ⟨L, rfl, hL1, hL3, by omega, fun M ok hML h6 => kk _ _ ⟨by simp only [HD.tick_c]; omega, ms ++ [M], by rw [e2, List.map_append]; rfl, by rw [List.length_append, e3]; rfl, fun M' hM' => ?_⟩⟩
    rcases List.mem_append.mp hM' with h | h
    · exact e4 M' h
    · rw [List.mem_singleton.mp h]; exact ⟨ok, hML, h6⟩
  obtain ⟨m1, m2, m3, rfl⟩ : ∃ m1 m2 m3, ms = [m1, m2, m3] := by
    match ms, e3 with
    | [a, b, c], _ => exact ⟨a, b, c, rfl⟩
  subst e2
  obtain ⟨o1, l1, n1⟩ := e4 m1 (by simp)
  obtain ⟨o2, l2, n2⟩ := e4 m2 (by simp)
  obtain ⟨o3, l3, n3⟩ := e4 m3 (by simp)
  have c3 : S2.c ≤ S'.c + 3001 := c2
  clear c2 e3 e4
  try (walk_at "rdx")
  refine ⟨rfl, rfl, hN1 _ _ ?_⟩
  clear hN1 N1
  subst l1
  have T0 : ∃ T : Tri, T.m1 = m1 ∧ T.m2 = m2 ∧ T.m3 = m3 := ⟨⟨m1, m2, m3, o1, o2, o3, l2, l3, n1, n2, n3⟩, rfl, rfl, rfl⟩
  obtain ⟨T, rfl, rfl, rfl⟩ := T0
  refine seq_step fun N1 hN1 => ?_
  walk_at "rdx"
  rw [every_enc]
  refine ⟨by decide, by omega, by decide, by decide, by decide, hN1 _ _ ?_⟩
  clear hN1 N1
  have sl3 := T.o1.l3
  have sl1 := T.o1.l1
  refine seq_step fun N1 hN1 => ?_
  walk_at "rdx"
  refine ⟨T, rfl, ?_⟩
  try (walk_at "rdx")
  refine ⟨⟨T.m3, T.m1, every T.m1.L, T.o3, T.o1, every_ok sl1 sl3, T.l3.symm, T.l3.symm, T.n3, T.n1, (by decide : 1 ≤ 6)⟩, by show [enc T.m3, enc T.m1, enc (every T.m1.L), enc (every T.m1.L)] = [enc T.m3, enc T.m1, enc (every T.m1.L), enc (every T.m3.L)]; rw [T.l3], ?_⟩
  try (walk_at "rdx")
  refine hN1 _ _ ?_
  clear hN1 N1
  have a1 := arg1 T
  have a2 := arg2 T
  have a3 := arg3 T
  refine seq_step fun N1 hN1 => ?_
  generalize hB : sIfD _ _ _ = B1
  walk_at "rdx"
  refine how_T a1 a2 fun A a sA => how_T a1 a2 fun B b sB => how_T a1 a2 fun C c sC => small_T a3 fun Dm d_ sD => ?_
  try (walk_at "rdx")
  refine ⟨by decide, fun _ => loopD_go (fun j σ S3 => S3 = S2 ∧ ∃ v8, σ = [some (.lst (ns.map D.int)), some .deck, some (.int (i : Nat)), some (.int (T.m1.L : Nat)), some (enc T.m1), some (enc T.m2), some (enc T.m3), some (enc (every T.m1.L)), v8, v9, v10]) ⟨rfl, _, rfl⟩ (fun j d σ S3 N3 hj ⟨e1, v8, e2⟩ kk => ⟨trivial, ?_⟩) fun σ S3 ⟨e1, v8, e2⟩ => ⟨trivial, ?_⟩⟩
  · have hZ : ∃ Z H, d = enc Z ∧ Arg T Z H ∧ Smallest Z := by
      have := List.mem_of_getElem? hj
      rcases List.mem_cons.mp this with e | this
      · exact ⟨A, _, e, a, sA⟩
      rcases List.mem_cons.mp this with e | this
      · exact ⟨B, _, e, b, sB⟩
      rcases List.mem_cons.mp this with e | this
      · exact ⟨C, _, e, c, sC⟩
      · exact ⟨Dm, _, List.mem_singleton.mp this, d_, sD⟩
    obtain ⟨Z, H, rfl, z, sZ⟩ := hZ
    subst e1 e2
    walk_at "rdx"
    subst hB
    walk_at "rdx"
    refine small_T z fun Z' z' sZ' => ?_
    obtain rfl := arg_eq z z' sZ sZ' (fun _ _ _ => rfl)
    have sg := (sm_enc z.ok).bound (by decide) (by decide)
    have en : nrm S3 (enc Z) = enc Z := rfl
    try (walk_at "rdx")
    refine ⟨sg, sg, not_off rfl ?_⟩
    have ez : enc Z = .tup [.int (Z.L : Nat), .tup (Z.rows.map encR), .tup (Z.ends.map .bl)] := rfl
    rw [ez]
    have e4 : decide ((400 : Int) < ((Z.rows.map encR).length : Nat)) = false := by
      have := z.ok.n4
      rw [List.length_map]
      exact decide_eq_false (by omega)
    simp only [at3_1, e4]
    exact yes_off rfl (kk _ _ ⟨rfl, _, rfl⟩)
  subst e1 e2
  clear hB
  refine hN1 _ _ ?_
  clear hN1 N1
  refine seq_step fun N1 hN1 => ?_
  generalize hB : sIfD _ _ _ = B1
  walk_at "rdx"
  refine ⟨⟨by decide, by decide, by omega⟩, fun r r0 r1 => ⟨by decide, fun _ => loopD_go (fun j σ S4 => S4 = S3.tick 1 ∧ ∃ v9, σ = [some (.lst (ns.map D.int)), some .deck, some (.int (i : Nat)), some (.int (T.m1.L : Nat)), some (enc T.m1), some (enc T.m2), some (enc T.m3), some (enc (every T.m1.L)), v8, v9, v10]) ⟨rfl, _, rfl⟩ (fun j d σ S4 N3 hj ⟨e1, v9, e2⟩ kk => ⟨trivial, ?_⟩) fun σ S4 ⟨e1, v9, e2⟩ => ⟨trivial, ?_⟩⟩⟩
  · obtain ⟨n, rfl, hn⟩ : ∃ n : Nat, d = .int (n : Nat) ∧ n ≤ 1000 := by
      have := List.mem_of_getElem? hj
      rcases List.mem_cons.mp this with e | this
      · exact ⟨0, e, by decide⟩
      rcases List.mem_cons.mp this with e | this
      · exact ⟨1, e, by decide⟩
      rcases List.mem_cons.mp this with e | this
      · exact ⟨2, e, by decide⟩
      · exact ⟨(5 + r).toNat, by rw [List.mem_singleton.mp this, Int.toNat_of_nonneg (by omega)], by omega⟩
    subst e1 e2
    walk_at "rdx"
    subst hB
    walk_at "rdx"
    refine ⟨T, _, _, _, _, n, rfl, a1, a2, hn, ?_⟩
    try (walk_at "rdx")
    refine ⟨T, _, _, _, _, n, rfl, a2, a3, hn, ?_⟩
    try (walk_at "rdx")
    exact kk _ _ ⟨rfl, _, rfl⟩
  subst e1 e2
  clear hB
  refine hN1 _ _ ?_
  clear hN1 N1
  walk_at "rdx"
  have sm : ∀ {m : Mch}, m.rows.length ≤ 6 → ∀ {n : Nat}, n ≤ 400 → (m.rows.length + 1) * (n + 1) ≤ 10000 := fun {m} h {n} hn => Nat.le_trans (Nat.mul_le_mul (by omega : m.rows.length + 1 ≤ 7) (by omega : n + 1 ≤ 401)) (by decide)
  refine ⟨T, _, _, _, _, rfl, a1, a2, sm T.n1 T.o2.n4, ?_⟩
  try (walk_at "rdx")
  refine how_T a1 a3 fun U u sU => ⟨T, _, _, _, _, rfl, a1, u, sm T.n1 u.ok.n4, ?_⟩
  try (walk_at "rdx")
  exact k _ _ ⟨⟨_, _, _, _, _, _, _, _, _, rfl⟩, by simp only [HD.tick_c]; omega⟩
theorem all_ok {l : PySem.W.OpenLaw} {w : World} {K : PySem.W.Frag} {h : Heap} {mg : Str → Option Value} {fa : Addr} (X : K.In h) (G : h.Ns mainGlobals mg) (hfa : mg "law" = some (.ref fa)) (T : Txt K mg) (D0 : DefOf K mg "moves_of" s_moves_of) (D1 : DefOf K mg "is_of" s_is_of) (D2 : DefOf K mg "open_layers" s_open_layers) (D3 : DefOf K mg "told" s_told) (D4 : DefOf K mg "counts" s_counts) (D5 : DefOf K mg "count" s_count) (D6 : DefOf K mg "size" s_size) (D7 : DefOf K mg "next_of" s_next_of) (D8 : DefOf K mg "ends_at" s_ends_at) (D9 : DefOf K mg "met_from" s_met_from) (D10 : DefOf K mg "living" s_living) (D11 : DefOf K mg "parted" s_parted) (D12 : DefOf K mg "shrunk" s_shrunk) (D13 : DefOf K mg "smallest" s_smallest) (D14 : DefOf K mg "joint" s_joint) (D15 : DefOf K mg "is_in" s_is_in) (D16 : DefOf K mg "both" s_both) (D17 : DefOf K mg "either" s_either) (D18 : DefOf K mg "less" s_less) (D19 : DefOf K mg "apart" s_apart) (D20 : DefOf K mg "_law_deck" s__law_deck) (D21 : DefOf K mg "_law_draw" s__law_draw) (D22 : DefOf K mg "_law_one" s__law_one) (D23 : DefOf K mg "_law_machine" s__law_machine) (D24 : DefOf K mg "_law_sets_right" s__law_sets_right) (D25 : DefOf K mg "_law_counts_right" s__law_counts_right) (D26 : DefOf K mg "_law_apart_right" s__law_apart_right) (D27 : DefOf K mg "law" s_law) :
    ∃ fd : FuncData, (∀ (s : Shared) (v : Value), BindsTo s fd ⟨[v], []⟩ [("_law_script", v)]) ∧ ∀ base : Heap, K.In base → base.Ns mainGlobals mg → SysB base → FnD l.prog w K mg base 6 fa fd ["_law_script"] spLaw := by
  obtain ⟨f, fd, F, hm⟩ := D27.ex
  have e := hfa.symm.trans hm
  cases e
  refine ⟨fd, ?_, fun base _ _ hB => ?_⟩
  · obtain ⟨oc, od, kV, dc, pm, an, cd, ct, osl, rfl, _, _⟩ := F.ex
    exact fun s v => .of_eq rfl
  have h__law_deck := mk__law_deck (P := l.prog) (w := w) D20 T hB (k := 0) deckOk
  have h__law_draw := mk__law_draw (P := l.prog) (w := w) D21 T hB (k := 0) drawOk
  have h__law_one := mk__law_one (P := l.prog) (w := w) D22 T hB h__law_draw spOne_len (fun ds S Q h => oneOk ds S Q h fun d S q => fin.here q)
  have h__law_machine := mk__law_machine (P := l.prog) (w := w) D23 T hB (h__law_draw.mono (by decide : 1 ≤ 2)) h__law_one mach6_len mach6_ok
  have h_next_of := mk_next_of (P := l.prog) (w := w) D7 T hB (k := 0) nextOf_len nextOf_ok
  have h_is_in := mk_is_in (P := l.prog) (w := w) D15 T hB (k := 0) isIn_len isIn_ok
  have h_ends_at := mk_ends_at (P := l.prog) (w := w) D8 T hB (k := 0) endsAt_len endsAt_ok
  have h_living := mk_living (P := l.prog) (w := w) D10 T hB (k := 0) liv_len liv_ok
  have h_parted := mk_parted (P := l.prog) (w := w) D11 T hB (k := 0) parted_len (parted_ok w)
  have h_met_from := mk_met_from (P := l.prog) (w := w) D9 T hB (k := 0) met_len met_ok
  have h_shrunk := mk_shrunk (P := l.prog) (w := w) D12 T hB h_living h_parted h_met_from shrunk_len shrunk_ok
  have h_joint := mk_joint (P := l.prog) (w := w) D14 T hB (h_next_of.mono (by decide : 1 ≤ 2)) (h_is_in.mono (by decide : 1 ≤ 2)) (h_ends_at.mono (by decide : 1 ≤ 2)) h_shrunk joint_len (joint_ok w)
  have h_both := mk_both (P := l.prog) (w := w) D16 T hB h_joint (how_len .both) both_ok
  have h_either := mk_either (P := l.prog) (w := w) D17 T hB h_joint (how_len .either) either_ok
  have h_less := mk_less (P := l.prog) (w := w) D18 T hB h_joint (how_len .less) less_ok
  have h_smallest := mk_smallest (P := l.prog) (w := w) D13 T hB h_shrunk small_len small_ok
  have h_counts := mk_counts (P := l.prog) (w := w) D4 T hB (k := 0) counts_len counts_ok
  have h_size := mk_size (P := l.prog) (w := w) D6 T hB h_shrunk (h_counts.mono (by decide : 1 ≤ 2)) size_len size_ok
  have h__law_sets_right := mk__law_sets_right (P := l.prog) (w := w) D24 T hB h_both h_either h_less (h_smallest.mono (by decide : 3 ≤ 4)) (h_size.mono (by decide : 3 ≤ 4)) sets_len sets_ok
  have h_count := mk_count (P := l.prog) (w := w) D5 T hB h_counts count_len count_ok
  have h__law_counts_right := mk__law_counts_right (P := l.prog) (w := w) D25 T hB (h_count.mono (by decide : 2 ≤ 4)) h_either h_both h_less cnts_len cnts_ok
  have h_apart := mk_apart (P := l.prog) (w := w) D19 T hB h_ends_at h_next_of apart_len (apart_ok w)
  have h_is_of := mk_is_of (P := l.prog) (w := w) D1 T hB (k := 0) isOf_len isOf_ok
  have h_open_layers := mk_open_layers (P := l.prog) (w := w) D2 T hB (k := 0) layers_len layers_ok
  have h_moves_of := mk_moves_of (P := l.prog) (w := w) D0 T hB (k := 0) moves_len movesOf_ok
  have h_told := mk_told (P := l.prog) (w := w) D3 T hB h_open_layers h_moves_of told_len told_ok
  have h__law_apart_right := mk__law_apart_right (P := l.prog) (w := w) D26 T hB (h_apart.mono (by decide : 2 ≤ 4)) (h_smallest.mono (by decide : 3 ≤ 4)) (h_size.mono (by decide : 3 ≤ 4)) h_less h_either (h_is_of.mono (by decide : 1 ≤ 4)) (h_told.mono (by decide : 2 ≤ 4)) (h_count.mono (by decide : 2 ≤ 4)) parts_len parts_ok
  exact FnD.of F sc_law _ len_law (fun cdv A outer s H hr => dv_law T hB hr (h__law_deck.mono (by decide : 1 ≤ 5)) (h__law_draw.mono (by decide : 1 ≤ 5)) (h__law_machine.mono (by decide : 3 ≤ 5)) h__law_sets_right (h_both.mono (by decide : 4 ≤ 5)) (h_either.mono (by decide : 4 ≤ 5)) (h_less.mono (by decide : 4 ≤ 5)) (h_smallest.mono (by decide : 3 ≤ 5)) h__law_counts_right h__law_apart_right) hq_law
end K25
end

section
namespace K25
open PySem PySem.Spec PyProof.Rows PD
theorem txt_mk {K : PySem.W.Frag} {h : Heap} {mg : Str → Option Value} (X : K.In h) (G : h.Ns mainGlobals mg) {t0 t1 t2 t3 t4 : Tok} (z0 : PySem.W.nsIn K mainGlobals "enumerate" = some none) (z1 : PySem.W.nsIn K mainGlobals "range" = some none) (z2 : PySem.W.nsIn K mainGlobals "len" = some none) (z3 : PySem.W.nsIn K mainGlobals "tuple" = some none) (z4 : PySem.W.nsIn K mainGlobals "int" = some none) (z5 : PySem.W.nsIn K mainGlobals "sum" = some none) (z6 : PySem.W.nsIn K mainGlobals "list" = some none) (z7 : PySem.W.nsIn K mainGlobals "set" = some none) (z8 : PySem.W.nsIn K mainGlobals "bool" = some none) (z9 : PySem.W.nsIn K mainGlobals "abs" = some none) (z10 : PySem.W.nsIn K mainGlobals "repr" = some none) (y0 : PySem.W.nsIn K mainGlobals "LETTERS" = some (some (.str "abc" t0))) (y1 : PySem.W.nsIn K mainGlobals "MAX_ROWS" = some (some (.int 400 t1))) (y2 : PySem.W.nsIn K mainGlobals "BOTH" = some (some (.str "both" t2))) (y3 : PySem.W.nsIn K mainGlobals "EITHER" = some (some (.str "either" t3))) (y4 : PySem.W.nsIn K mainGlobals "LESS" = some (some (.str "less" t4))) {a0 : Addr} {i0 : Array Value} {n0 : Nat} {d0 : Option Addr} {s0 : Array (Option Value)} (u0 : PySem.W.nsIn K mainGlobals "NOWHERE" = some (some (.ref a0))) (v0 : K.lookup a0 = some ⟨.type "tuple", d0, .seq i0 n0, s0⟩) (r0 : decide (i0.size ≤ sizeLine) = true) (q0 : relsB [.non, .non] i0.toList = true) : Txt K mg :=
  ⟨PySem.W.mg_none_of X G z0, PySem.W.mg_none_of X G z1, PySem.W.mg_none_of X G z2, PySem.W.mg_none_of X G z3, PySem.W.mg_none_of X G z4, PySem.W.mg_none_of X G z5, PySem.W.mg_none_of X G z6, PySem.W.mg_none_of X G z7, PySem.W.mg_none_of X G z8, PySem.W.mg_none_of X G z9, PySem.W.mg_none_of X G z10, ⟨_, PySem.W.mg_of X G y0⟩, ⟨_, PySem.W.mg_of X G y1⟩, ⟨_, PySem.W.mg_of X G y2⟩, ⟨_, PySem.W.mg_of X G y3⟩, ⟨_, PySem.W.mg_of X G y4⟩, tupC_mk X G u0 v0 r0 q0⟩
theorem room : RoomG 6 callerA := ⟨⟨rfl, by decide, by decide⟩, rfl⟩
end K25
open PySem PySem.W PyProof.Rows in
set_option maxRecDepth 100000 in
set_option maxHeartbeats 0 in
theorem PySem.Challenge.cw_sortedshelves_k25_whole_machines_as_sets_holds : PySem.Challenge.rw_sortedshelves_k25_whole_machines_as_sets.Holds := by
  w_on; o_law; k_head; (case hw => w_witness2)
  k_fill
  refine PD.walk_D (l := PySem.Challenge.rw_sortedshelves_k25_whole_machines_as_sets) (x := "_law_script") rfl rfl K25.room ?imp (fun w h Y => PySem.W.kIn_of Y) ?F
  case imp => decide +kernel
  case F =>
    intro w mg fa h KX G hmg
    refine' K25.all_ok KX G hmg (K25.txt_mk KX G ?z0 ?z1 ?z2 ?z3 ?z4 ?z5 ?z6 ?z7 ?z8 ?z9 ?z10 ?y0 ?y1 ?y2 ?y3 ?y4 ?u0 ?v0 ?r0 ?q0) (PD.defOf_mk (x := "moves_of") (st := K25.s_moves_of) KX G ?a0 ?l0 ?c0 ?k0) (PD.defOf_mk (x := "is_of") (st := K25.s_is_of) KX G ?a1 ?l1 ?c1 ?k1) (PD.defOf_mk (x := "open_layers") (st := K25.s_open_layers) KX G ?a2 ?l2 ?c2 ?k2) (PD.defOf_mk (x := "told") (st := K25.s_told) KX G ?a3 ?l3 ?c3 ?k3) (PD.defOf_mk (x := "counts") (st := K25.s_counts) KX G ?a4 ?l4 ?c4 ?k4) (PD.defOf_mk (x := "count") (st := K25.s_count) KX G ?a5 ?l5 ?c5 ?k5) (PD.defOf_mk (x := "size") (st := K25.s_size) KX G ?a6 ?l6 ?c6 ?k6) (PD.defOf_mk (x := "next_of") (st := K25.s_next_of) KX G ?a7 ?l7 ?c7 ?k7) (PD.defOf_mk (x := "ends_at") (st := K25.s_ends_at) KX G ?a8 ?l8 ?c8 ?k8) (PD.defOf_mk (x := "met_from") (st := K25.s_met_from) KX G ?a9 ?l9 ?c9 ?k9) (PD.defOf_mk (x := "living") (st := K25.s_living) KX G ?a10 ?l10 ?c10 ?k10) (PD.defOf_mk (x := "parted") (st := K25.s_parted) KX G ?a11 ?l11 ?c11 ?k11) (PD.defOf_mk (x := "shrunk") (st := K25.s_shrunk) KX G ?a12 ?l12 ?c12 ?k12) (PD.defOf_mk (x := "smallest") (st := K25.s_smallest) KX G ?a13 ?l13 ?c13 ?k13) (PD.defOf_mk (x := "joint") (st := K25.s_joint) KX G ?a14 ?l14 ?c14 ?k14) (PD.defOf_mk (x := "is_in") (st := K25.s_is_in) KX G ?a15 ?l15 ?c15 ?k15) (PD.defOf_mk (x := "both") (st := K25.s_both) KX G ?a16 ?l16 ?c16 ?k16) (PD.defOf_mk (x := "either") (st := K25.s_either) KX G ?a17 ?l17 ?c17 ?k17) (PD.defOf_mk (x := "less") (st := K25.s_less) KX G ?a18 ?l18 ?c18 ?k18) (PD.defOf_mk (x := "apart") (st := K25.s_apart) KX G ?a19 ?l19 ?c19 ?k19) (PD.defOf_mk (x := "_law_deck") (st := K25.s__law_deck) KX G ?a20 ?l20 ?c20 ?k20) (PD.defOf_mk (x := "_law_draw") (st := K25.s__law_draw) KX G ?a21 ?l21 ?c21 ?k21) (PD.defOf_mk (x := "_law_one") (st := K25.s__law_one) KX G ?a22 ?l22 ?c22 ?k22) (PD.defOf_mk (x := "_law_machine") (st := K25.s__law_machine) KX G ?a23 ?l23 ?c23 ?k23) (PD.defOf_mk (x := "_law_sets_right") (st := K25.s__law_sets_right) KX G ?a24 ?l24 ?c24 ?k24) (PD.defOf_mk (x := "_law_counts_right") (st := K25.s__law_counts_right) KX G ?a25 ?l25 ?c25 ?k25) (PD.defOf_mk (x := "_law_apart_right") (st := K25.s__law_apart_right) KX G ?a26 ?l26 ?c26 ?k26) (PD.defOf_mk (x := "law") (st := K25.s_law) KX G ?a27 ?l27 ?c27 ?k27)
    (case z0 => k_is)
    (case z1 => k_is)
    (case z2 => k_is)
    (case z3 => k_is)
    (case z4 => k_is)
    (case z5 => k_is)
    (case z6 => k_is)
    (case z7 => k_is)
    (case z8 => k_is)
    (case z9 => k_is)
    (case z10 => k_is)
    (case y0 => k_is)
    (case y1 => k_is)
    (case y2 => k_is)
    (case y3 => k_is)
    (case y4 => k_is)
    (case u0 => k_is)
    (case v0 => k_is)
    (case r0 => decide)
    (case q0 => decide)
    (case a0 => k_is)
    (case l0 => k_is)
    (case c0 => k_is)
    (case k0 => k_is)
    (case a1 => k_is)
    (case l1 => k_is)
    (case c1 => k_is)
    (case k1 => k_is)
    (case a2 => k_is)
    (case l2 => k_is)
    (case c2 => k_is)
    (case k2 => k_is)
    (case a3 => k_is)
    (case l3 => k_is)
    (case c3 => k_is)
    (case k3 => k_is)
    (case a4 => k_is)
    (case l4 => k_is)
    (case c4 => k_is)
    (case k4 => k_is)
    (case a5 => k_is)
    (case l5 => k_is)
    (case c5 => k_is)
    (case k5 => k_is)
    (case a6 => k_is)
    (case l6 => k_is)
    (case c6 => k_is)
    (case k6 => k_is)
    (case a7 => k_is)
    (case l7 => k_is)
    (case c7 => k_is)
    (case k7 => k_is)
    (case a8 => k_is)
    (case l8 => k_is)
    (case c8 => k_is)
    (case k8 => k_is)
    (case a9 => k_is)
    (case l9 => k_is)
    (case c9 => k_is)
    (case k9 => k_is)
    (case a10 => k_is)
    (case l10 => k_is)
    (case c10 => k_is)
    (case k10 => k_is)
    (case a11 => k_is)
    (case l11 => k_is)
    (case c11 => k_is)
    (case k11 => k_is)
    (case a12 => k_is)
    (case l12 => k_is)
    (case c12 => k_is)
    (case k12 => k_is)
    (case a13 => k_is)
    (case l13 => k_is)
    (case c13 => k_is)
    (case k13 => k_is)
    (case a14 => k_is)
    (case l14 => k_is)
    (case c14 => k_is)
    (case k14 => k_is)
    (case a15 => k_is)
    (case l15 => k_is)
    (case c15 => k_is)
    (case k15 => k_is)
    (case a16 => k_is)
    (case l16 => k_is)
    (case c16 => k_is)
    (case k16 => k_is)
    (case a17 => k_is)
    (case l17 => k_is)
    (case c17 => k_is)
    (case k17 => k_is)
    (case a18 => k_is)
    (case l18 => k_is)
    (case c18 => k_is)
    (case k18 => k_is)
    (case a19 => k_is)
    (case l19 => k_is)
    (case c19 => k_is)
    (case k19 => k_is)
    (case a20 => k_is)
    (case l20 => k_is)
    (case c20 => k_is)
    (case k20 => k_is)
    (case a21 => k_is)
    (case l21 => k_is)
    (case c21 => k_is)
    (case k21 => k_is)
    (case a22 => k_is)
    (case l22 => k_is)
    (case c22 => k_is)
    (case k22 => k_is)
    (case a23 => k_is)
    (case l23 => k_is)
    (case c23 => k_is)
    (case k23 => k_is)
    (case a24 => k_is)
    (case l24 => k_is)
    (case c24 => k_is)
    (case k24 => k_is)
    (case a25 => k_is)
    (case l25 => k_is)
    (case c25 => k_is)
    (case k25 => k_is)
    (case a26 => k_is)
    (case l26 => k_is)
    (case c26 => k_is)
    (case k26 => k_is)
    (case a27 => k_is)
    (case l27 => k_is)
    (case c27 => k_is)
    (case k27 => k_is)
end
