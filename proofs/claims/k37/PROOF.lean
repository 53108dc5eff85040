import PyProof.Rows.All
import Wide.All
import OpenK.AllK
import Wide.FinOn
import HandS.ForMost
import HandS.IsInst
import HandS.Flow
import HandS.TupAny
import HandS.TupMul
import HandS.Deep
import HandS.Zip
import HandS.Wide
import KE.KDictDisplayH
import HandS.Lambda
import HandS.Style
import HandS.Exc
import PyProof.NeData
import PyProof.StrLawsRepr
import PyProof.Rows.StrJoinMade
import PyProof.ReprRoads
import PyProof.CallFns
import PyProof.Rows.StrDigitsNeg
import KE.GoesEnum
import KE.GoesZip
import HandS.StrMore
import HandS.Small
import HandS.DictComp
import KE.KDictCopyH
import HandS.TupLen
import HandS.SetKeys
import HandS.Conv
import HandS.NoneIn
import HandS.TryMany
import HandS.ExcOwn
import PyProof.Rows.StrPadFill
import HandS.EndTab
import HandS.Strs
import KE.KEqNest
import PyProof.TupleOfStr
import KE.DataEq
import PyProof.SeqIndex
import KE.KDictZip
import PySem.Challenge.RW_sortedshelves_k37_made_comparisons
import HandS.ExcIs
set_option Elab.async false
set_option linter.all false
set_option maxRecDepth 100000
set_option maxHeartbeats 4000000
section
/-! PD1: deep values over the hand layer. -/
namespace PD
open PySem PySem.Spec PyProof.Rows L2

/-- deep values: tuples, frozen lists and dicts are plain data; what may change is a reference; the deck of draws is one opaque value -/
inductive D where
  | non | bl (b : Bool) | int (i : Int) | str (x : Str)
  | tup (xs : List D) | lst (xs : List D) | dic (kvs : List (D × D))
  | ref (a : Addr) | ty (n : String) | deck

/-- what a lambda is made of -/
structure LamI where
  qual : Str
  params : Arguments
  body : Expr
  scope : Scope
/-- what may change; a table of code objects (all of the name q); a function made of a lambda, its cells and what they hold -/
inductive OD where
  | lst (xs : List D) | dic (kvs : List (D × D)) | ins (C : Addr) (fs : List (Str × D)) | dct (w : World) (kvs : List (D × D))
  | tab (q : Str) | clo (L : LamI) (cl : List (Str × Addr)) (cs : List (Str × D))
/-- the very object o at a: functions made of lambdas, and their cells -/
abbrev KnO (a : Addr) (o : Obj) : HO := .frz o (.own a)
def Kn : HO → Prop
  | .frz _ (.own _) => True
  | _ => False
def LamI.obj (L : LamI) (cl : List (Str × Addr)) (pm : Value) (c' : Addr) (ctv : Value) : Obj := PySem.W.kla_obj "<lambda>" L.qual L.params L.body L.scope cl pm c' ctv

/-- the deep heap: tracked objects, a bound on the draws so far, where the deck stands -/
structure HD where
  hp : Addr → Option OD
  c : Nat
  dk : Option (Addr × Addr)
def HD.set (S : HD) (a : Addr) (o : OD) : HD := { S with hp := fun b => if b = a then some o else S.hp b }
def HD.del (S : HD) (a : Addr) : HD := { S with hp := fun b => if b = a then none else S.hp b }
def HD.tick (S : HD) (n : Nat) : HD := { S with c := S.c + n }
@[simp] theorem HD.set_same {S : HD} {a : Addr} {o : OD} : (S.set a o).hp a = some o := by simp [HD.set]
theorem HD.set_ne {S : HD} {a b : Addr} {o : OD} (h : b ≠ a) : (S.set a o).hp b = S.hp b := by simp [HD.set, h]
@[simp] theorem HD.set_set {S : HD} {a : Addr} {o u : OD} : (S.set a o).set a u = S.set a u := by
  unfold HD.set; congr 1; funext b; by_cases h : b = a <;> simp [h]
@[simp] theorem HD.set_dk {S : HD} {a : Addr} {o : OD} : (S.set a o).dk = S.dk := rfl
@[simp] theorem HD.set_c {S : HD} {a : Addr} {o : OD} : (S.set a o).c = S.c := rfl
@[simp] theorem HD.tick_hp {S : HD} {n : Nat} : (S.tick n).hp = S.hp := rfl
@[simp] theorem HD.tick_dk {S : HD} {n : Nat} : (S.tick n).dk = S.dk := rfl
@[simp] theorem HD.tick_c {S : HD} {n : Nat} : (S.tick n).c = S.c + n := rfl

def Dk (S : HD) (a : Addr) : Prop := ∃ p, S.dk = some p ∧ (a = p.1 ∨ a = p.2)
/-- a may be named by frozen data -/
def Fz (G : Addr → Prop) (S : HD) (a : Addr) : Prop := S.hp a = none ∧ ¬ Dk S a ∧ ¬ G a

/-- from one state to a later one: what was not tracked stands as it stood -/
structure FL (S : HD) (H : Hp) (S' : HD) (H' : Hp) : Prop where
  kp : ∀ a o, H a = some o → S.hp a = none → ¬ Dk S a → S'.hp a = none ∧ ¬ Dk S' a ∧ H' a = some o
  dk : ∀ p, S.dk = some p → S'.dk = some p
theorem FL.refl (S : HD) (H : Hp) : FL S H S H := ⟨fun _ _ h n d => ⟨n, d, h⟩, fun _ h => h⟩
theorem FL.trans {S S1 S2 : HD} {H H1 H2 : Hp} (a : FL S H S1 H1) (b : FL S1 H1 S2 H2) : FL S H S2 H2 :=
  ⟨fun c o h n d => let ⟨n1, d1, h1⟩ := a.kp c o h n d; b.kp c o h1 n1 d1, fun p h => b.dk p (a.dk p h)⟩

def KT (K : PySem.W.Frag) (a : Addr) (xs : List V) : Prop :=
  ∃ (o : Obj) (its : Array Value) (n : Nat), K.lookup a = some o ∧ o.cls = .type "tuple" ∧ o.data = .seq its n ∧ its.size ≤ sizeLine ∧ Vals xs its.toList
def KL (K : PySem.W.Frag) (a : Addr) (xs : List V) : Prop :=
  ∃ (o : Obj) (its : Array Value) (n : Nat), K.lookup a = some o ∧ o.cls = .type "list" ∧ o.dict = none ∧ o.data = .seq its n ∧ its.size ≤ sizeLine ∧ Vals xs its.toList

variable (K : PySem.W.Frag) (G : Addr → Prop) (S : HD) (H : Hp) in
def FzT (a : Addr) (xs : List V) : Prop := (Fz G S a ∧ Rd H a (.tup xs)) ∨ KT K a xs
variable (K : PySem.W.Frag) (G : Addr → Prop) (S : HD) (H : Hp) in
def FzL (a : Addr) (xs : List V) : Prop := (Fz G S a ∧ Rd H a (.lst xs)) ∨ KL K a xs
variable (G : Addr → Prop) (S : HD) (H : Hp) in
def FzD (a : Addr) (kvs : List (Key × V)) : Prop := Fz G S a ∧ Rd H a (.dK kvs)

def kD : Key → D
  | .inl i => .int i
  | .inr x => .str x

section
variable (K : PySem.W.Frag) (G : Addr → Prop) (S : HD) (H : Hp)
mutual
inductive RD : D → V → Prop
  | non : RD .non .non
  | bl (b : Bool) : RD (.bl b) (.bl b)
  | int (i : Int) : RD (.int i) (.int i)
  | str (x : Str) : RD (.str x) (.str x)
  | ty (n : String) : RD (.ty n) (.ty n)
  | ref (a : Addr) : RD (.ref a) (.ref a)
  | tup {a : Addr} {vs : List V} {ds : List D} (h : FzT K G S H a vs) (r : RDs ds vs) : RD (.tup ds) (.ref a)
  | lst {a : Addr} {vs : List V} {ds : List D} (h : FzL K G S H a vs) (r : RDs ds vs) : RD (.lst ds) (.ref a)
  | dic {a : Addr} {kvs : List (Key × V)} {kds : List (D × D)} (h : FzD G S H a kvs) (r : RDk kds kvs) : RD (.dic kds) (.ref a)
  | deck {a b : Addr} (h : S.dk = some (a, b)) : RD .deck (.ref a)
inductive RDs : List D → List V → Prop
  | nil : RDs [] []
  | cons {d : D} {v : V} {ds : List D} {vs : List V} (h : RD d v) (r : RDs ds vs) : RDs (d :: ds) (v :: vs)
inductive RDk : List (D × D) → List (Key × V) → Prop
  | nil : RDk [] []
  | cons {k : Key} {d : D} {v : V} {kds : List (D × D)} {kvs : List (Key × V)} (h : RD d v) (r : RDk kds kvs) : RDk ((kD k, d) :: kds) ((k, v) :: kvs)
end
end

section
variable {K : PySem.W.Frag} {G G' : Addr → Prop} {S S' : HD} {H H' : Hp}

/-- frozen addresses of one state are frozen in another one, with the same objects -/
structure Mv (G : Addr → Prop) (S : HD) (H : Hp) (G' : Addr → Prop) (S' : HD) (H' : Hp) : Prop where
  kp : ∀ a o, H a = some o → Fz G S a → Fz G' S' a ∧ H' a = some o
  dk : ∀ p, S.dk = some p → S'.dk = some p
/-- the same, but for what is known to the object -/
structure Mv0 (G : Addr → Prop) (S : HD) (H : Hp) (G' : Addr → Prop) (S' : HD) (H' : Hp) : Prop where
  kp : ∀ a o, H a = some o → ¬ Kn o → Fz G S a → Fz G' S' a ∧ H' a = some o
  dk : ∀ p, S.dk = some p → S'.dk = some p
theorem Mv.m0 (m : Mv G S H G' S' H') : Mv0 G S H G' S' H' := ⟨fun a o e _ z => m.kp a o e z, m.dk⟩
theorem FL.mv (f : FL S H S' H') : Mv G S H G S' H' :=
  ⟨fun a o h z => let ⟨n, d, e⟩ := f.kp a o h z.1 z.2.1; ⟨⟨n, d, z.2.2⟩, e⟩, f.dk⟩
theorem Mv0.rd (m : Mv0 G S H G' S' H') {a : Addr} {o : HO} (nk : ¬ Kn o) (nk2 : ∀ u, ¬ Kn (.frz u o)) (h : Fz G S a ∧ Rd H a o) : Fz G' S' a ∧ Rd H' a o := by
  obtain ⟨z, r⟩ := h
  rcases r with r | ⟨u, r⟩
  · obtain ⟨z', e⟩ := m.kp a _ r nk z; exact ⟨z', .inl e⟩
  · obtain ⟨z', e⟩ := m.kp a _ r (nk2 u) z; exact ⟨z', .inr ⟨u, e⟩⟩
mutual
theorem RD.mv0 (m : Mv0 G S H G' S' H') : ∀ {d : D} {v : V}, RD K G S H d v → RD K G' S' H' d v
  | _, _, .non => .non
  | _, _, .bl b => .bl b
  | _, _, .int i => .int i
  | _, _, .str x => .str x
  | _, _, .ty n => .ty n
  | _, _, .ref a => .ref a
  | _, _, .tup h r => .tup (h.imp (fun z => m.rd id (fun _ => id) z) id) (RDs.mv0 m r)
  | _, _, .lst h r => .lst (h.imp (fun z => m.rd id (fun _ => id) z) id) (RDs.mv0 m r)
  | _, _, .dic h r => .dic (m.rd id (fun _ => id) h) (RDk.mv0 m r)
  | _, _, .deck h => .deck (m.dk _ h)
theorem RDs.mv0 (m : Mv0 G S H G' S' H') : ∀ {ds : List D} {vs : List V}, RDs K G S H ds vs → RDs K G' S' H' ds vs
  | _, _, .nil => .nil
  | _, _, .cons h r => .cons (RD.mv0 m h) (RDs.mv0 m r)
theorem RDk.mv0 (m : Mv0 G S H G' S' H') : ∀ {ds : List (D × D)} {vs : List (Key × V)}, RDk K G S H ds vs → RDk K G' S' H' ds vs
  | _, _, .nil => .nil
  | _, _, .cons h r => .cons (RD.mv0 m h) (RDk.mv0 m r)
end
theorem Mv.rd (m : Mv G S H G' S' H') {a : Addr} {o : HO} (h : Fz G S a ∧ Rd H a o) : Fz G' S' a ∧ Rd H' a o := by
  obtain ⟨z, r⟩ := h
  rcases r with r | ⟨u, r⟩
  · obtain ⟨z', e⟩ := m.kp a _ r z; exact ⟨z', .inl e⟩
  · obtain ⟨z', e⟩ := m.kp a _ r z; exact ⟨z', .inr ⟨u, e⟩⟩
theorem RD.mv (m : Mv G S H G' S' H') {d : D} {v : V} (r : RD K G S H d v) : RD K G' S' H' d v := r.mv0 m.m0
theorem RDs.mv (m : Mv G S H G' S' H') {ds : List D} {vs : List V} (r : RDs K G S H ds vs) : RDs K G' S' H' ds vs := r.mv0 m.m0
theorem RDk.mv (m : Mv G S H G' S' H') {ds : List (D × D)} {vs : List (Key × V)} (r : RDk K G S H ds vs) : RDk K G' S' H' ds vs := r.mv0 m.m0
theorem RD.fl (f : FL S H S' H') {d : D} {v : V} (r : RD K G S H d v) : RD K G S' H' d v := r.mv f.mv
theorem RDs.fl (f : FL S H S' H') {d : List D} {v : List V} (r : RDs K G S H d v) : RDs K G S' H' d v := r.mv f.mv

theorem RDs.length : ∀ {ds : List D} {vs : List V}, RDs K G S H ds vs → ds.length = vs.length
  | _, _, .nil => rfl
  | _, _, .cons _ r => by simp [RDs.length r]
theorem RDs.append : ∀ {ds es : List D} {vs ws : List V}, RDs K G S H ds vs → RDs K G S H es ws → RDs K G S H (ds ++ es) (vs ++ ws)
  | _, _, _, _, .nil, s => s
  | _, _, _, _, .cons h r, s => .cons h (RDs.append r s)
theorem RDs.get : ∀ {ds : List D} {vs : List V} {i : Nat} {d : D}, RDs K G S H ds vs → ds[i]? = some d → ∃ v, vs[i]? = some v ∧ RD K G S H d v
  | _, _, _, _, .nil, e => by simp at e
  | _, _, 0, _, .cons h _, e => by simp at e; subst e; exact ⟨_, rfl, h⟩
  | _, _, i + 1, d, .cons _ r, e => by
    obtain ⟨u, h1, h2⟩ := RDs.get (i := i) (d := d) r (by simpa using e)
    exact ⟨u, by simpa using h1, h2⟩
theorem RDs.take : ∀ {ds : List D} {vs : List V} (n : Nat), RDs K G S H ds vs → RDs K G S H (ds.take n) (vs.take n)
  | _, _, 0, _ => .nil
  | _, _, _ + 1, .nil => .nil
  | _, _, n + 1, .cons h r => .cons h (RDs.take n r)
theorem RDs.drop : ∀ {ds : List D} {vs : List V} (n : Nat), RDs K G S H ds vs → RDs K G S H (ds.drop n) (vs.drop n)
  | _, _, 0, r => r
  | _, _, _ + 1, .nil => .nil
  | _, _, n + 1, .cons _ r => RDs.drop n r
theorem RDs.set {d : D} {v : V} (h : RD K G S H d v) : ∀ {ds : List D} {vs : List V} (i : Nat), RDs K G S H ds vs → RDs K G S H (ds.set i d) (vs.set i v)
  | _, _, _, .nil => .nil
  | _, _, 0, .cons _ r => .cons h r
  | _, _, i + 1, .cons h' r => .cons h' (RDs.set h i r)
theorem RDs.rev : ∀ {ds : List D} {vs : List V}, RDs K G S H ds vs → RDs K G S H ds.reverse vs.reverse
  | _, _, .nil => .nil
  | _, _, .cons h r => by rw [List.reverse_cons, List.reverse_cons]; exact (RDs.rev r).append (.cons h .nil)
theorem RDs.ints : ∀ (ns : List Int), RDs K G S H (ns.map D.int) (ns.map V.int)
  | [] => .nil
  | n :: ns => .cons (.int n) (RDs.ints ns)
theorem RDs.rep {d : D} {v : V} (h : RD K G S H d v) : ∀ n : Nat, RDs K G S H (List.replicate n d) (List.replicate n v)
  | 0 => .nil
  | n + 1 => .cons h (RDs.rep h n)

/-! a deep value as a key -/
mutual
def nkOf : D → Option NestedKey
  | .non => some .none
  | .bl b => some (.num (if b = true then 1 else 0))
  | .int i => some (.num i)
  | .str x => some (.text x)
  | .tup xs => (nksOf xs).map .tup
  | _ => none
def nksOf : List D → Option (List NestedKey)
  | [] => some []
  | d :: r => (nkOf d).bind fun k => (nksOf r).map (k :: ·)
end
/-- a dict whose keys are tuples, as it lies in the heap -/
def RawT (w : World) (a : Addr) (xs : List (NestedKey × Addr × Value)) : Heap → Prop := fun h => ∃ o es ep, h.get? a = some o ∧ o.ExactDict ∧ o.data = .dict es ep ∧
  es.toList = xs.map (fun x => ⟨x.1.hash w, .ref x.2.1, x.2.2⟩) ∧ (xs.map (·.1)).Nodup ∧ (a == sysModules) = false ∧ xs.length ≤ sizeLine
section
variable (K : PySem.W.Frag) (G : Addr → Prop) (S : HD) (H : Hp)
inductive RDt : List (D × D) → List (NestedKey × Addr × Value) → Prop
  | nil : RDt [] []
  | cons {kd d : D} {nk : NestedKey} {b : Addr} {v : V} {u : Value} {kds : List (D × D)} {xs : List (NestedKey × Addr × Value)} (hk : RD K G S H kd (.ref b)) (hn : nkOf kd = some nk) (hd : nk.depth ≤ 8) (hv : RelV v u) (h : RD K G S H d v) (r : RDt kds xs) :
      RDt ((kd, d) :: kds) ((nk, b, u) :: xs)
end
theorem RDt.mv0 (m : Mv0 G S H G' S' H') : ∀ {kds : List (D × D)} {xs : List (NestedKey × Addr × Value)}, RDt K G S H kds xs → RDt K G' S' H' kds xs
  | _, _, .nil => .nil
  | _, _, .cons hk hn hd hv h r => .cons (hk.mv0 m) hn hd hv (h.mv0 m) (RDt.mv0 m r)

theorem RDt.mv (m : Mv G S H G' S' H') {kds : List (D × D)} {xs : List (NestedKey × Addr × Value)} (r : RDt K G S H kds xs) : RDt K G' S' H' kds xs := r.mv0 m.m0

/-- a table: each code object in it bears the name q -/
def TabAt (G : Addr → Prop) (S : HD) (H : Hp) (P : Addr) (q : Str) : Prop := ∃ ps : Array Value, H P = some (.tbl ps) ∧ TriplesOk ps.toList ∧ ∀ (pos : Pos) (cv : Value), codeAmong pos ps.toList = some cv → ∃ c, cv = .ref c ∧ Fz G S c ∧ H c = some (LamX.CodeO c q)
theorem TabAt.mv0 (m : Mv0 G S H G' S' H') {P : Addr} {q : Str} (e : H' P = H P) (t : TabAt G S H P q) : TabAt G' S' H' P q := by
  obtain ⟨ps, h1, h2, h3⟩ := t
  refine ⟨ps, e.trans h1, h2, fun pos cv hc => ?_⟩
  obtain ⟨c, e1, z, e2⟩ := h3 pos cv hc
  exact ⟨c, e1, (m.kp c _ e2 id z).1, (m.kp c _ e2 id z).2⟩
/-- what the cell of the name y holds -/
def CapAt (K : PySem.W.Frag) (G : Addr → Prop) (S : HD) (H : Hp) (cl : List (Str × Addr)) (y : Str) (d : D) : Prop :=
  ∃ c o u v, cl.lookup y = some c ∧ Fz G S c ∧ H c = some (KnO c o) ∧ o.data = .cell (some u) ∧ RelV v u ∧ RD K G S H d v
theorem CapAt.mv (m : Mv G S H G' S' H') {cl : List (Str × Addr)} {y : Str} {d : D} (t : CapAt K G S H cl y d) : CapAt K G' S' H' cl y d := by
  obtain ⟨c, o, u, v, h1, z, h2, h3, h4, h5⟩ := t
  exact ⟨c, o, u, v, h1, (m.kp c _ h2 z).1, (m.kp c _ h2 z).2, h3, h4, h5.mv m⟩
structure CloAt (K : PySem.W.Frag) (G : Addr → Prop) (S : HD) (H : Hp) (a : Addr) (L : LamI) (cl : List (Str × Addr)) (cs : List (Str × D)) : Prop where
  fn : ∃ c' pm ctv, H a = some (KnO a (L.obj cl pm c' ctv)) ∧ Fz G S c' ∧ H c' = some (LamX.CodeO c' L.qual)
  cap : ∀ y d, cs.lookup y = some d → CapAt K G S H cl y d
  cell : ∀ y c, cl.lookup y = some c → ∃ d, cs.lookup y = some d
  inj : ∀ x y c, cl.lookup x = some c → cl.lookup y = some c → x = y
  free : ∀ y, L.scope.names.lookup y = some .free → ∃ c, cl.lookup y = some c
theorem CloAt.mv (m : Mv G S H G' S' H') {a : Addr} {L : LamI} {cl : List (Str × Addr)} {cs : List (Str × D)} (e : H' a = H a) (t : CloAt K G S H a L cl cs) : CloAt K G' S' H' a L cl cs :=
  ⟨let ⟨c', pm, ctv, h1, z, h2⟩ := t.fn; ⟨c', pm, ctv, e.trans h1, (m.kp c' _ h2 z).1, (m.kp c' _ h2 z).2⟩, fun y d h => (t.cap y d h).mv m, t.cell, t.inj, t.free⟩
def ROD (K : PySem.W.Frag) (G : Addr → Prop) (S : HD) (H : Hp) (a : Addr) : OD → Prop
  | .tab q => TabAt G S H a q
  | .clo L cl cs => CloAt K G S H a L cl cs
  | .lst ds => ∃ vs, H a = some (.lst vs) ∧ RDs K G S H ds vs
  | .dic kds => ∃ kvs, H a = some (.dK kvs) ∧ RDk K G S H kds kvs
  | .ins C fs => ∃ dx vs, H a = some (.ins C dx vs) ∧ fs.map (·.1) = vs.map (·.1) ∧ RDs K G S H (fs.map (·.2)) (vs.map (·.2))
  | .dct w kds => ∃ xs, H a = some (.ext (RawT w a xs)) ∧ RDt K G S H kds xs
theorem ROD.there {a : Addr} {o : OD} (r : ROD K G S H a o) : ∃ u, H a = some u := by
  cases o with
  | lst ds => obtain ⟨_, e, _⟩ := r; exact ⟨_, e⟩
  | dic ds => obtain ⟨_, e, _⟩ := r; exact ⟨_, e⟩
  | ins C fs => obtain ⟨_, _, e, _⟩ := r; exact ⟨_, e⟩
  | dct w fs => obtain ⟨_, e, _⟩ := r; exact ⟨_, e⟩
  | tab q => obtain ⟨_, e, _⟩ := r; exact ⟨_, e⟩
  | clo L cl cs => obtain ⟨_, _, _, e, _⟩ := r.fn; exact ⟨_, e⟩
theorem ROD.mv (m : Mv G S H G' S' H') {a : Addr} {o : OD} (e : H' a = H a) (r : ROD K G S H a o) : ROD K G' S' H' a o := by
  cases o with
  | lst ds => obtain ⟨vs, e1, q⟩ := r; exact ⟨vs, e.trans e1, q.mv m⟩
  | dic ds => obtain ⟨vs, e1, q⟩ := r; exact ⟨vs, e.trans e1, q.mv m⟩
  | ins C fs => obtain ⟨dx, vs, e1, k, q⟩ := r; exact ⟨dx, vs, e.trans e1, k, q.mv m⟩
  | dct w fs => obtain ⟨xs, e1, q⟩ := r; exact ⟨xs, e.trans e1, q.mv m⟩
  | tab q => exact TabAt.mv0 m.m0 e r
  | clo L cl cs => exact CloAt.mv m e r

def OD.isClo : OD → Bool
  | .clo _ _ _ => true
  | _ => false
theorem ROD.mv0 (m : Mv0 G S H G' S' H') {a : Addr} {o : OD} (n : o.isClo = false) (e : H' a = H a) (r : ROD K G S H a o) : ROD K G' S' H' a o := by
  cases o with
  | lst ds => obtain ⟨vs, e1, q⟩ := r; exact ⟨vs, e.trans e1, q.mv0 m⟩
  | dic ds => obtain ⟨vs, e1, q⟩ := r; exact ⟨vs, e.trans e1, q.mv0 m⟩
  | ins C fs => obtain ⟨dx, vs, e1, k, q⟩ := r; exact ⟨dx, vs, e.trans e1, k, q.mv0 m⟩
  | dct w fs => obtain ⟨xs, e1, q⟩ := r; exact ⟨xs, e.trans e1, q.mv0 m⟩
  | tab q => exact TabAt.mv0 m e r
  | clo L cl cs => cases n
/-- the deck as it stands: the cells and how many draws were made -/
def DeckAt (H : Hp) (a b : Addr) (c : Nat) : Prop :=
  ∃ (cells : List Int) (n : Nat), H a = some (.lst [.ref b, .int (n : Int)]) ∧ H b = some (.lst (cells.map V.int)) ∧ n ≤ c ∧ cells.length ≤ 63 ∧ ∀ z ∈ cells, 0 ≤ z
structure RH (K : PySem.W.Frag) (G : Addr → Prop) (S : HD) (H : Hp) : Prop where
  hp : ∀ a o, S.hp a = some o → ¬ Dk S a ∧ ¬ G a ∧ ROD K G S H a o
  rs : ∀ a, G a → (∃ o, H a = some o) ∧ ¬ Dk S a
  dk : ∀ a b, S.dk = some (a, b) → a ≠ b ∧ S.hp a = none ∧ S.hp b = none ∧ DeckAt H a b S.c
theorem RH.fresh (r : RH K G S H) {a : Addr} (h : H a = none) : S.hp a = none ∧ ¬ Dk S a ∧ ¬ G a := by
  refine ⟨?_, ?_, ?_⟩
  · cases e : S.hp a with
    | none => rfl
    | some o =>
      obtain ⟨u, q⟩ := (r.hp a o e).2.2.there
      rw [h] at q; cases q
  · rintro ⟨p, e, hp⟩
    obtain ⟨_, _, _, _, _, e1, e2, _⟩ := r.dk p.1 p.2 e
    rcases hp with z | z
    · rw [z, e1] at h; cases h
    · rw [z, e2] at h; cases h
  · intro g
    obtain ⟨⟨o, e⟩, _⟩ := r.rs a g
    rw [h] at e; cases e

/-- the heap has grown, nothing else -/
structure Grow (H H' : Hp) : Prop where
  kp : ∀ a o, H a = some o → H' a = some o
theorem Grow.upd {H : Hp} {p : Addr} {o : HO} (h : H p = none) : Grow H (upd H p o) := ⟨fun a u e => by rw [upd_ne (ne_of_none e h)]; exact e⟩
theorem Grow.fl (g : Grow H H') : FL S H S H' := ⟨fun a o h n d => ⟨n, d, g.kp a o h⟩, fun _ h => h⟩
theorem RH.grow (r : RH K G S H) (g : Grow H H') : RH K G S H' where
  hp := fun a o e => by
    obtain ⟨h1, h2, h3⟩ := r.hp a o e
    obtain ⟨u, q⟩ := h3.there
    exact ⟨h1, h2, h3.mv g.fl.mv ((g.kp a u q).trans q.symm)⟩
  rs := fun a h => let ⟨⟨o, e⟩, d⟩ := r.rs a h; ⟨⟨o, g.kp a o e⟩, d⟩
  dk := fun a b e => by
    obtain ⟨h1, h2, h3, cs, n, h4, h5, h6⟩ := r.dk a b e
    exact ⟨h1, h2, h3, cs, n, g.kp _ _ h4, g.kp _ _ h5, h6⟩
/-- a new object that is to be frozen -/
theorem RH.newF (r : RH K G S H) {p : Addr} (h : H p = none) (o : HO) : RH K G S (upd H p o) ∧ FL S H S (upd H p o) ∧ Fz G S p :=
  ⟨r.grow (.upd h), (Grow.upd h).fl, r.fresh h⟩
theorem RH.newT (r : RH K G S H) {p : Addr} (h : H p = none) {ds : List D} {vs : List V} (rs : RDs K G S H ds vs) : RD K G S (L2.upd H p (.tup vs)) (.tup ds) (.ref p) :=
  .tup (.inl ⟨r.fresh h, .inl upd_same⟩) (rs.fl (Grow.upd h).fl)
theorem RH.newL (r : RH K G S H) {p : Addr} (h : H p = none) {ds : List D} {vs : List V} (rs : RDs K G S H ds vs) : RD K G S (L2.upd H p (.lst vs)) (.lst ds) (.ref p) :=
  .lst (.inl ⟨r.fresh h, .inl upd_same⟩) (rs.fl (Grow.upd h).fl)
/-- a new object that is to be tracked -/
theorem RH.newR (r : RH K G S H) {p : Addr} (h : H p = none) {o : OD} {ho : HO} (q : ROD K G (S.set p o) (upd H p ho) p o) :
    RH K G (S.set p o) (upd H p ho) ∧ FL S H (S.set p o) (upd H p ho) := by
  obtain ⟨n1, n2, n3⟩ := r.fresh h
  have fl : FL S H (S.set p o) (upd H p ho) := ⟨fun a u e n d => by
    have ne := ne_of_none e h
    exact ⟨by rw [HD.set_ne ne]; exact n, d, by rw [upd_ne ne]; exact e⟩, fun _ e => e⟩
  refine ⟨⟨fun a u e => ?_, fun a g => ?_, fun a b e => ?_⟩, fl⟩
  · by_cases ha : a = p
    · subst ha
      rw [HD.set_same] at e; cases e
      exact ⟨n2, n3, q⟩
    · rw [HD.set_ne ha] at e
      obtain ⟨h1, h2, h3⟩ := r.hp a u e
      exact ⟨h1, h2, h3.mv fl.mv (upd_ne ha)⟩
  · obtain ⟨⟨u, e⟩, d⟩ := r.rs a g
    exact ⟨⟨u, (Grow.upd h).kp a u e⟩, d⟩
  · obtain ⟨h1, h2, h3, cs, n, h4, h5, h6⟩ := r.dk a b e
    exact ⟨h1, by rw [HD.set_ne (ne_of_none h4 h)]; exact h2, by rw [HD.set_ne (ne_of_none h5 h)]; exact h3, cs, n, (Grow.upd h).kp _ _ h4, (Grow.upd h).kp _ _ h5, h6⟩
/-- a tracked object is changed -/
theorem RH.write (r : RH K G S H) {p : Addr} {o o' : OD} (h : S.hp p = some o) {ho : HO} (q : ROD K G (S.set p o') (upd H p ho) p o') :
    RH K G (S.set p o') (upd H p ho) ∧ FL S H (S.set p o') (upd H p ho) := by
  obtain ⟨n2, n3, _⟩ := r.hp p o h
  have nep : ∀ {a : Addr}, S.hp a = none → a ≠ p := fun {a} e z => by rw [z, h] at e; cases e
  have fl : FL S H (S.set p o') (upd H p ho) := ⟨fun a u e n d => by
    have ne := nep n
    exact ⟨by rw [HD.set_ne ne]; exact n, d, by rw [upd_ne ne]; exact e⟩, fun _ e => e⟩
  refine ⟨⟨fun a u e => ?_, fun a g => ?_, fun a b e => ?_⟩, fl⟩
  · by_cases ha : a = p
    · subst ha
      rw [HD.set_same] at e; cases e
      exact ⟨n2, n3, q⟩
    · rw [HD.set_ne ha] at e
      obtain ⟨h1, h2, h3⟩ := r.hp a u e
      exact ⟨h1, h2, h3.mv fl.mv (upd_ne ha)⟩
  · obtain ⟨⟨u, e⟩, d⟩ := r.rs a g
    have ne : a ≠ p := fun z => n3 (z ▸ g)
    exact ⟨⟨u, by rw [upd_ne ne]; exact e⟩, d⟩
  · obtain ⟨h1, h2, h3, cs, n, h4, h5, h6⟩ := r.dk a b e
    exact ⟨h1, by rw [HD.set_ne (nep h2)]; exact h2, by rw [HD.set_ne (nep h3)]; exact h3, cs, n, by rw [upd_ne (nep h2)]; exact h4, by rw [upd_ne (nep h3)]; exact h5, h6⟩
/-- fewer tracked objects, a greater bound -/
structure HLe (S S' : HD) : Prop where
  hp : ∀ a o, S.hp a = some o → S'.hp a = some o
  c : S'.c ≤ S.c
  dk : S.dk = S'.dk
theorem HLe.refl (S : HD) : HLe S S := ⟨fun _ _ h => h, Nat.le_refl _, rfl⟩
theorem HLe.trans {S S1 S2 : HD} (a : HLe S S1) (b : HLe S1 S2) : HLe S S2 := ⟨fun c o h => b.hp c o (a.hp c o h), Nat.le_trans b.c a.c, a.dk.trans b.dk⟩
theorem HLe.set {S : HD} {p : Addr} {o : OD} (h : S.hp p = none) : HLe S (S.set p o) :=
  ⟨fun a u e => by rw [HD.set_ne (fun z => by rw [z, h] at e; cases e)]; exact e, Nat.le_refl _, rfl⟩
theorem HLe.tick {S S' : HD} (h : HLe S S') (n : Nat) : HLe (S.tick n) S' := ⟨h.hp, Nat.le_trans h.c (Nat.le_add_right _ _), h.dk⟩
theorem HLe.dkE (l : HLe S S') {a : Addr} : Dk S a ↔ Dk S' a := by unfold Dk; rw [l.dk]
theorem HLe.fz (l : HLe S S') {a : Addr} (h : S'.hp a = none) : S.hp a = none := by
  cases e : S.hp a with
  | none => rfl
  | some o => rw [l.hp a o e] at h; cases h
theorem HLe.mv (l : HLe S S') : Mv G S' H G S H :=
  ⟨fun a o e z => ⟨⟨l.fz z.1, fun d => z.2.1 (l.dkE.mp d), z.2.2⟩, e⟩, fun p h => l.dk.trans h⟩
theorem HLe.fl (l : HLe S S') : FL S' H S H :=
  ⟨fun a o e n d => ⟨l.fz n, fun z => d (l.dkE.mp z), e⟩, fun p h => l.dk.trans h⟩
theorem RH.le (r : RH K G S' H) (l : HLe S S') : RH K G S H where
  hp := fun a o e => by
    obtain ⟨h1, h2, h3⟩ := r.hp a o (l.hp a o e)
    exact ⟨fun d => h1 (l.dkE.mp d), h2, h3.mv l.mv rfl⟩
  rs := fun a g => let ⟨e, d⟩ := r.rs a g; ⟨e, fun z => d (l.dkE.mp z)⟩
  dk := fun a b e => by
    obtain ⟨h1, h2, h3, cs, n, h4, h5, h6, h7⟩ := r.dk a b (l.dk.symm.trans e)
    exact ⟨h1, l.fz h2, l.fz h3, cs, n, h4, h5, Nat.le_trans h6 l.c, h7⟩
end

/-! ### slots -/
abbrev SD := List (Option D)
structure RSl (K : PySem.W.Frag) (G : Addr → Prop) (S : HD) (H : Hp) (σd : SD) (σ : L2.St) : Prop where
  len : σd.length = σ.length
  sl : ∀ (i : Nat) (d : D), σd[i]? = some (some d) → ∃ v, σ[i]? = some (some v) ∧ RD K G S H d v
section
variable {K : PySem.W.Frag} {G G' : Addr → Prop} {S S' : HD} {H H' : Hp} {σd : SD} {σ : L2.St}
theorem RSl.mv (r : RSl K G S H σd σ) (m : Mv G S H G' S' H') : RSl K G' S' H' σd σ :=
  ⟨r.len, fun i d e => let ⟨v, h, q⟩ := r.sl i d e; ⟨v, h, q.mv m⟩⟩
theorem RSl.fl (r : RSl K G S H σd σ) (f : FL S H S' H') : RSl K G S' H' σd σ := r.mv f.mv
theorem RSl.set (r : RSl K G S H σd σ) {d : D} {v : V} (q : RD K G S H d v) (i : Nat) : RSl K G S H (σd.set i (some d)) (σ.set i (some v)) := by
  refine ⟨by simp [r.len], fun j e h => ?_⟩
  by_cases hj : i = j
  · subst hj
    have hi : i < σd.length := by
      have := (List.getElem?_eq_some_iff.mp h).1
      simpa using this
    rw [List.getElem?_set_self hi] at h
    cases h
    exact ⟨v, by rw [List.getElem?_set_self (r.len ▸ hi)], q⟩
  · rw [List.getElem?_set_ne hj] at h
    obtain ⟨u, h1, h2⟩ := r.sl j e h
    exact ⟨u, by rw [List.getElem?_set_ne hj]; exact h1, h2⟩
def wipeD (σ : SD) : List Nat → SD
  | [] => σ
  | v :: vs => (wipeD σ vs).set v none
theorem wipeD_length (σ : SD) : ∀ vs : List Nat, (wipeD σ vs).length = σ.length
  | [] => rfl
  | v :: vs => by unfold wipeD; rw [List.length_set, wipeD_length σ vs]
theorem RSl.setN (r : RSl K G S H σd σ) (i : Nat) : RSl K G S H (σd.set i none) (σ.set i none) := by
  refine ⟨by simp [r.len], fun j e h => ?_⟩
  by_cases hj : i = j
  · subst hj
    have hi : i < σd.length := by
      have := (List.getElem?_eq_some_iff.mp h).1
      simpa using this
    rw [List.getElem?_set_self hi] at h
    cases h
  · rw [List.getElem?_set_ne hj] at h
    obtain ⟨u, h1, h2⟩ := r.sl j e h
    exact ⟨u, by rw [List.getElem?_set_ne hj]; exact h1, h2⟩
theorem RSl.wipe (r : RSl K G S H σd σ) : ∀ vs : List Nat, RSl K G S H (wipeD σd vs) (wipe σ vs)
  | [] => r
  | v :: vs => (RSl.wipe r vs).setN v
end
end PD
end

section
/-! PD2: readings over deep values, lifted over the layer's readings: names, constants, displays, operators, tests. -/
namespace PD
open PySem PySem.Spec PyProof.Rows L2

abbrev QD := D → HD → Prop
abbrev TED := SD → HD → QD → Prop
abbrev TTD := SD → HD → (Bool → HD → Prop) → Prop
abbrev TAD := SD → HD → (List D → HD → Prop) → Prop

section
variable (K : PySem.W.Frag) (G : Addr → Prop) (S : HD) (H : Hp)
def Post (Qd : QD) (Q : VK) : Prop := ∀ S' d v H', FL S H S' H' → RH K G S' H' → RD K G S' H' d v → Qd d S' → Q v H'
def PostT (Qd : Bool → HD → Prop) (Q : Bool → Hp → Prop) : Prop := ∀ S' b H', FL S H S' H' → RH K G S' H' → Qd b S' → Q b H'
def PostA (Qd : List D → HD → Prop) (Q : List V → Hp → Prop) : Prop := ∀ S' ds vs H', FL S H S' H' → RH K G S' H' → RDs K G S' H' ds vs → Qd ds S' → Q vs H'
end
def up (K : PySem.W.Frag) (t : TED) : TE := fun σ H Q => ∃ G σd S Qd, RSl K G S H σd σ ∧ RH K G S H ∧ t σd S Qd ∧ Post K G S H Qd Q
def upT (K : PySem.W.Frag) (t : TTD) : TT := fun σ H Q => ∃ G σd S Qd, RSl K G S H σd σ ∧ RH K G S H ∧ t σd S Qd ∧ PostT K G S H Qd Q
def upA (K : PySem.W.Frag) (t : TAD) : TA := fun σ H Q => ∃ G σd S Qd, RSl K G S H σd σ ∧ RH K G S H ∧ t σd S Qd ∧ PostA K G S H Qd Q
abbrev DE (X : Cx) (e : Expr) (t : TED) : Prop := PE X e (up X.K t)
abbrev DT (X : Cx) (e : Expr) (t : TTD) : Prop := PT X e (upT X.K t)
abbrev DW (X : Cx) (e : Expr) (t : TTD) : Prop := PW X e (upT X.K t)
abbrev DA (X : Cx) (es : List Expr) (t : TAD) : Prop := PA X es (upA X.K t)

section
variable {X : Cx} {e : Expr}
theorem _root_.L2.PE.imp {t t' : TE} (h : PE X e t) (i : ∀ σ H Q, t' σ H Q → t σ H Q) : PE X e t' := ⟨fun pins s σ H Q I q => h.run pins s σ H Q I (i _ _ _ q)⟩
theorem _root_.L2.PT.imp {t t' : TT} (h : PT X e t) (i : ∀ σ H Q, t' σ H Q → t σ H Q) : PT X e t' := ⟨fun pins s σ H Q I q => h.run pins s σ H Q I (i _ _ _ q)⟩
theorem _root_.L2.PW.imp {t t' : TT} (h : PW X e t) (i : ∀ σ H Q, t' σ H Q → t σ H Q) : PW X e t' := ⟨fun wh pins s σ H Q I q => h.run wh pins s σ H Q I (i _ _ _ q)⟩
theorem _root_.L2.PA.imp {es : List Expr} {t t' : TA} (h : PA X es t) (i : ∀ σ H Q, t' σ H Q → t σ H Q) : PA X es t' := ⟨fun pos pins s σ H Q I q => h.run pos pins s σ H Q I (i _ _ _ q)⟩
end
section
variable {K : PySem.W.Frag} {G : Addr → Prop} {S S1 : HD} {H H1 : Hp}
theorem Post.fl {Qd : QD} {Q : VK} (p : Post K G S H Qd Q) (f : FL S H S1 H1) : Post K G S1 H1 Qd Q := fun S' d v H' f' => p S' d v H' (f.trans f')
theorem PostT.fl {Qd : Bool → HD → Prop} {Q : Bool → Hp → Prop} (p : PostT K G S H Qd Q) (f : FL S H S1 H1) : PostT K G S1 H1 Qd Q := fun S' d H' f' => p S' d H' (f.trans f')
theorem PostA.fl {Qd : List D → HD → Prop} {Q : List V → Hp → Prop} (p : PostA K G S H Qd Q) (f : FL S H S1 H1) : PostA K G S1 H1 Qd Q := fun S' d v H' f' => p S' d v H' (f.trans f')
/-- the value stands in the heap as it is -/
theorem Post.here {Qd : QD} {Q : VK} (p : Post K G S H Qd Q) (r : RH K G S H) {d : D} {v : V} (q : RD K G S H d v) (h : Qd d S) : Q v H := p S d v H (.refl _ _) r q h
theorem PostT.here {Qd : Bool → HD → Prop} {Q : Bool → Hp → Prop} (p : PostT K G S H Qd Q) (r : RH K G S H) {d : Bool} (h : Qd d S) : Q d H := p S d H (.refl _ _) r h
/-- a new frozen tuple, list -/
theorem Post.newT {Qd : QD} {Q : VK} (p : Post K G S H Qd Q) (r : RH K G S H) {ds : List D} {vs : List V} (q : RDs K G S H ds vs) (h : Qd (.tup ds) S) {a : Addr} (ha : H a = none) : Q (.ref a) (upd H a (.tup vs)) :=
  let ⟨r', f, _⟩ := r.newF ha (.tup vs); p S _ _ _ f r' (r.newT ha q) h
theorem Post.newL {Qd : QD} {Q : VK} (p : Post K G S H Qd Q) (r : RH K G S H) {ds : List D} {vs : List V} (q : RDs K G S H ds vs) (h : Qd (.lst ds) S) {a : Addr} (ha : H a = none) : Q (.ref a) (upd H a (.lst vs)) :=
  let ⟨r', f, _⟩ := r.newF ha (.lst vs); p S _ _ _ f r' (r.newL ha q) h
/-- a new tracked list -/
theorem Post.newR {Qd : QD} {Q : VK} (p : Post K G S H Qd Q) (r : RH K G S H) {ds : List D} {vs : List V} (q : RDs K G S H ds vs) (h : ∀ p, S.hp p = none → Qd (.ref p) (S.set p (.lst ds))) {a : Addr} (ha : H a = none) : Q (.ref a) (upd H a (.lst vs)) := by
  have n := r.fresh ha
  have m : Mv G S H G (S.set a (.lst ds)) (upd H a (.lst vs)) := ⟨fun b o e z => by
    have ne := ne_of_none e ha
    exact ⟨⟨by rw [HD.set_ne ne]; exact z.1, z.2.1, z.2.2⟩, by rw [upd_ne ne]; exact e⟩, fun _ e => e⟩
  obtain ⟨r', f⟩ := r.newR ha (o := .lst ds) (ho := .lst vs) ⟨vs, upd_same, q.mv m⟩
  exact p _ _ _ _ f r' (.ref a) (h a n.1)
end

/-! ### names and constants -/
def gt : SD → Nat → Option D
  | [], _ => none
  | x :: _, 0 => x
  | _ :: r, n + 1 => gt r n
theorem gt_some : ∀ {σ : SD} {i : Nat} {d : D}, gt σ i = some d → σ[i]? = some (some d)
  | [], _, _, h => by cases h
  | x :: _, 0, d, h => by simp [gt] at h; simp [h]
  | _ :: r, n + 1, d, h => by simpa using gt_some (σ := r) (i := n) h
/-- a slot that holds a value -/
def tSlot (i : Nat) : TED := fun σ S Q => match gt σ i with
  | some d => Q d S
  | none => False
def tCD (d : D) : TED := fun _ S Q => Q d S
section
variable {X : Cx}
theorem de_slot (i : Nat) {x : Str} {pos : Pos} (h : PE X (.Name x pos) (tVar i)) : DE X (.Name x pos) (tSlot i) := by
  refine h.imp fun σ H Q q => ?_
  obtain ⟨G, σd, S, Qd, rs, rh, t, p⟩ := q
  unfold tSlot at t
  cases e : gt σd i with
  | none => rw [e] at t; exact t.elim
  | some d =>
    rw [e] at t
    obtain ⟨v, h1, h2⟩ := rs.sl i d (gt_some e)
    exact ⟨v, h1, p.here rh h2 t⟩
theorem de_c {e : Expr} {v : V} {d : D} (h : PE X e (tC v)) (r : ∀ G S H, RD X.K G S H d v) : DE X e (tCD d) :=
  h.imp fun σ H Q ⟨G, σd, S, Qd, rs, rh, t, p⟩ => p.here rh (r _ _ _) t
theorem de_int {i j pos} : DE X (.Constant (.int i) j pos) (tCD (.int i)) := de_c pe_int fun _ _ _ => .int _
theorem de_bl {b j pos} : DE X (.Constant (.bool b) j pos) (tCD (.bl b)) := de_c pe_bl fun _ _ _ => .bl _
theorem de_non {j pos} : DE X (.Constant .none j pos) (tCD .non) := de_c pe_non fun _ _ _ => .non
theorem de_str {x j pos} : DE X (.Constant (.str x) j pos) (tCD (.str x)) := de_c pe_str fun _ _ _ => .str _
/-- a built-in class as a value -/
theorem de_ty {n : String} {x : Str} {pos : Pos} (hg : Gl X x) (hm : X.mg x = none) (hv : bootBuiltins x = some (.type n)) (hn : x ≠ "__name__" := by decide) (hd : (x == ("__debug__" : Str)) = false := by decide) : DE X (.Name x pos) (tCD (.ty n)) :=
  de_c (pe_bltn (v := .ty n) hg hm hv rfl hn hd) fun _ _ _ => .ty _
/-- a module's int, text -/
theorem de_globI {x : Str} {i : Int} {t : Tok} {pos : Pos} (hg : Gl X x) (hm : X.mg x = some (.int i t)) (hd : (x == ("__debug__" : Str)) = false := by decide) : DE X (.Name x pos) (tCD (.int i)) :=
  de_c (pe_glob (v := .int i) hg hm ⟨_, rfl⟩ hd) fun _ _ _ => .int _
theorem de_globS {x : Str} {i : Str} {t : Tok} {pos : Pos} (hg : Gl X x) (hm : X.mg x = some (.str i t)) (hd : (x == ("__debug__" : Str)) = false := by decide) : DE X (.Name x pos) (tCD (.str i)) :=
  de_c (pe_glob (v := .str i) hg hm ⟨_, rfl⟩ hd) fun _ _ _ => .str _

/-! ### argument lists, displays -/
def tNilD : TAD := fun _ S Q => Q [] S
def tConsD (te : TED) (tr : TAD) : TAD := fun σ S Q => te σ S fun d S1 => tr σ S1 fun ds S2 => Q (d :: ds) S2
theorem da_nil : DA X [] tNilD := pa_nil.imp fun σ H Q ⟨G, σd, S, Qd, rs, rh, t, p⟩ => p S [] [] H (.refl _ _) rh .nil t
theorem da_cons {e : Expr} {es : List Expr} {te : TED} {tr : TAD} (h : DE X e te) (hr : DA X es tr) (hs : starEach (e :: es) X.env = (false, eval e X.env) :: starEach es X.env := by rfl) : DA X (e :: es) (tConsD te tr) :=
  (pa_cons h hr hs).imp fun σ H Q ⟨G, σd, S, Qd, rs, rh, t, p⟩ =>
    ⟨G, σd, S, _, rs, rh, t, fun S1 d v H1 f1 rh1 q1 t1 => ⟨G, σd, S1, _, rs.fl f1, rh1, t1, fun S2 ds vs H2 f2 rh2 q2 t2 => p S2 _ _ H2 (f1.trans f2) rh2 (.cons (q1.fl f2) q2) t2⟩⟩
def tTupD (ta : TAD) : TED := fun σ S Q => ta σ S fun ds S1 => ds.length ≤ 1000 ∧ Q (.tup ds) S1
def tLstV (ta : TAD) : TED := fun σ S Q => ta σ S fun ds S1 => ds.length ≤ 1000 ∧ Q (.lst ds) S1
def tLstR (ta : TAD) : TED := fun σ S Q => ta σ S fun ds S1 => ds.length ≤ 1000 ∧ ∀ p, S1.hp p = none → Q (.ref p) (S1.set p (.lst ds))
theorem line1000 {n : Nat} (h : n ≤ 1000) : n ≤ sizeLine := Nat.le_trans h (by decide)
theorem de_tup {es : List Expr} {ta : TAD} {k pos} (h : DA X es ta) : DE X (.Tuple es k pos) (tTupD ta) :=
  (pe_tup h).imp fun σ H Q ⟨G, σd, S, Qd, rs, rh, t, p⟩ =>
    ⟨G, σd, S, _, rs, rh, t, fun S1 ds vs H1 f1 rh1 q1 ⟨l1, t1⟩ => ⟨q1.length ▸ line1000 l1, fun a ha => (p.fl f1).newT rh1 q1 t1 ha⟩⟩
theorem de_lstV {es : List Expr} {ta : TAD} {pos} (h : DA X es ta) : DE X (.List es pos) (tLstV ta) :=
  (pe_lst h).imp fun σ H Q ⟨G, σd, S, Qd, rs, rh, t, p⟩ =>
    ⟨G, σd, S, _, rs, rh, t, fun S1 ds vs H1 f1 rh1 q1 ⟨l1, t1⟩ => ⟨q1.length ▸ line1000 l1, fun a ha => (p.fl f1).newL rh1 q1 t1 ha⟩⟩
theorem de_lstR {es : List Expr} {ta : TAD} {pos} (h : DA X es ta) : DE X (.List es pos) (tLstR ta) :=
  (pe_lst h).imp fun σ H Q ⟨G, σd, S, Qd, rs, rh, t, p⟩ =>
    ⟨G, σd, S, _, rs, rh, t, fun S1 ds vs H1 f1 rh1 q1 ⟨l1, t1⟩ => ⟨q1.length ▸ line1000 l1, fun a ha => (p.fl f1).newR rh1 q1 t1 ha⟩⟩

/-! ### two operands -/
abbrev R2D := D → D → HD → QD → Prop
/-- a reading by values, lifted -/
def Op2 (K : PySem.W.Frag) (r : R2) (rd : R2D) : Prop := ∀ (G : Addr → Prop) (S : HD) (H : Hp) (d1 d2 : D) (v1 v2 : V) (Qd : QD) (Q : VK), RH K G S H → RD K G S H d1 v1 → RD K G S H d2 v2 → rd d1 d2 S Qd → Post K G S H Qd Q → r v1 v2 H Q
def tBin (rd : R2D) (ta tb : TED) : TED := fun σ S Q => ta σ S fun x S1 => tb σ S1 fun y S2 => rd x y S2 Q
theorem up_bin {K : PySem.W.Frag} {r : R2} {rd : R2D} (h : Op2 K r rd) {ta tb : TED} : ∀ σ H Q, up K (tBin rd ta tb) σ H Q → tOp r (up K ta) (up K tb) σ H Q := fun σ H Q ⟨G, σd, S, Qd, rs, rh, t, p⟩ =>
  ⟨G, σd, S, _, rs, rh, t, fun S1 d v H1 f1 rh1 q1 t1 => ⟨G, σd, S1, _, rs.fl f1, rh1, t1, fun S2 d2 v2 H2 f2 rh2 q2 t2 => h G S2 H2 d d2 v v2 _ _ rh2 (q1.fl f2) q2 t2 (p.fl (f1.trans f2))⟩⟩
theorem Op2.or {K : PySem.W.Frag} {r r' : R2} {rd rd' : R2D} (h : Op2 K r rd) (h' : Op2 K r' rd') : Op2 K (fun x y H Q => r x y H Q ∨ r' x y H Q) (fun x y S Q => rd x y S Q ∨ rd' x y S Q) :=
  fun G S H d1 d2 v1 v2 Qd Q rh q1 q2 t p => t.imp (fun t => h G S H d1 d2 v1 v2 Qd Q rh q1 q2 t p) fun t => h' G S H d1 d2 v1 v2 Qd Q rh q1 q2 t p
variable {a b : Expr} {ta tb : TED} {pos : Pos}
theorem de_op {op : Operator} {r : R2} {rd : R2D} (ho : OpR X (binaryOp op) r) (h : Op2 X.K r rd) (ha : DE X a ta) (hb : DE X b tb) : DE X (.BinOp a op b pos) (tBin rd ta tb) := (pe_op ho ha hb).imp (up_bin h)
theorem de_cmp {op : CmpOp} {r : R2} {rd : R2D} (ho : OpR X (compareOp op) r) (h : Op2 X.K r rd) (ha : DE X a ta) (hb : DE X b tb) (hm : behindInMarks op b = false) : DE X (.Compare a [op] [b] pos) (tBin rd ta tb) := (pe_cmpR ho ha hb hm).imp (up_bin h)
/-- a value that is a bool, as a test -/
def tTst (t : TED) : TTD := fun σ S Q => t σ S fun x S1 => match x with
  | .bl k => Q k S1
  | _ => False
theorem up_tst {K : PySem.W.Frag} {r : R2} {rd : R2D} (h : Op2 K r rd) {ta tb : TED} : ∀ σ H Q, upT K (tTst (tBin rd ta tb)) σ H Q → tTest (tOp r (up K ta) (up K tb)) σ H Q := fun σ H Q ⟨G, σd, S, Qd, rs, rh, t, p⟩ =>
  up_bin h σ H _ ⟨G, σd, S, _, rs, rh, t, fun S1 d v H1 f1 rh1 q1 t1 => by
    cases q1 with
    | bl k => exact ⟨k, rfl, p S1 k H1 f1 rh1 t1⟩
    | _ => exact t1.elim⟩
theorem dt_cmp {op : CmpOp} {r : R2} {rd : R2D} (ho : OpR X (compareOp op) r) (h : Op2 X.K r rd) (ha : DE X a ta) (hb : DE X b tb) (hm : behindInMarks op b = false) : DT X (.Compare a [op] [b] pos) (tTst (tBin rd ta tb)) := (pt_cmpR ho ha hb hm).imp (up_tst h)
theorem dt_val {e : Expr} {t : TED} (h : DE X e t) (he : ∀ whole, isTrue e X.env whole = (do let v ← whole; standAt e.pos; holding [v] (truthy v)) := by intro _; rfl) : DT X e (tTst t) :=
  (pt_val h he).imp fun σ H Q ⟨G, σd, S, Qd, rs, rh, t, p⟩ => ⟨G, σd, S, _, rs, rh, t, fun S1 d v H1 f1 rh1 q1 t1 => by
    cases q1 with
    | bl k => exact ⟨k, rfl, p S1 k H1 f1 rh1 t1⟩
    | _ => exact t1.elim⟩

/-! ### and, or, not, if as tests and as values -/
variable {tA tB' : TTD} {rest : List Expr} {c : Expr}
def tAndD (t u : TTD) : TTD := fun σ S Q => t σ S fun c S1 => if c = true then u σ S1 Q else Q false S1
def tOrD (t u : TTD) : TTD := fun σ S Q => t σ S fun c S1 => if c = true then Q true S1 else u σ S1 Q
def tNotD (t : TTD) : TTD := fun σ S Q => t σ S fun c S1 => Q (!c) S1
theorem dw_and1 (ha : DT X a tA) : DW X (.BoolOp .And [a] pos) tA := pw_and1 ha
theorem dw_or1 (ha : DT X a tA) : DW X (.BoolOp .Or [a] pos) tA := pw_or1 ha
theorem dw_and (ha : DT X a tA) (hb : DW X (.BoolOp .And (b :: rest) pos) tB') : DW X (.BoolOp .And (a :: b :: rest) pos) (tAndD tA tB') :=
  (pw_and ha hb).imp fun σ H Q ⟨G, σd, S, Qd, rs, rh, t, p⟩ => ⟨G, σd, S, _, rs, rh, t, fun S1 k H1 f1 rh1 t1 => by
    cases k with
    | true => rw [if_pos rfl] at t1 ⊢; exact ⟨G, σd, S1, _, rs.fl f1, rh1, t1, p.fl f1⟩
    | false => rw [if_neg Bool.false_ne_true] at t1 ⊢; exact p S1 false H1 f1 rh1 t1⟩
theorem dw_or (ha : DT X a tA) (hb : DW X (.BoolOp .Or (b :: rest) pos) tB') : DW X (.BoolOp .Or (a :: b :: rest) pos) (tOrD tA tB') :=
  (pw_or ha hb).imp fun σ H Q ⟨G, σd, S, Qd, rs, rh, t, p⟩ => ⟨G, σd, S, _, rs, rh, t, fun S1 k H1 f1 rh1 t1 => by
    cases k with
    | false => rw [if_neg Bool.false_ne_true] at t1 ⊢; exact ⟨G, σd, S1, _, rs.fl f1, rh1, t1, p.fl f1⟩
    | true => rw [if_pos rfl] at t1 ⊢; exact p S1 true H1 f1 rh1 t1⟩
theorem dt_w (h : DW X c tA) : DT X c tA := PW.pt h
theorem dt_not (ha : DT X a tA) : DT X (.UnaryOp .Not a pos) (tNotD tA) :=
  (pt_not ha).imp fun σ H Q ⟨G, σd, S, Qd, rs, rh, t, p⟩ => ⟨G, σd, S, _, rs, rh, t, fun S1 k H1 f1 rh1 t1 => p S1 _ H1 f1 rh1 t1⟩
def tIfD (t : TTD) (ta tb : TED) : TED := fun σ S Q => t σ S fun c S1 => if c = true then ta σ S1 Q else tb σ S1 Q
theorem de_if (hc : DT X c tA) (ha : DE X a ta) (hb : DE X b tb) : DE X (.IfExp c a b pos) (tIfD tA ta tb) :=
  (pe_ifExp hc ha hb).imp fun σ H Q ⟨G, σd, S, Qd, rs, rh, t, p⟩ => ⟨G, σd, S, _, rs, rh, t, fun S1 k H1 f1 rh1 t1 => by
    cases k with
    | true => rw [if_pos rfl] at t1 ⊢; exact ⟨G, σd, S1, _, rs.fl f1, rh1, t1, p.fl f1⟩
    | false => rw [if_neg Bool.false_ne_true] at t1 ⊢; exact ⟨G, σd, S1, _, rs.fl f1, rh1, t1, p.fl f1⟩⟩
/-- as values: all but the last are bools -/
def tAndV (ta tb : TED) : TED := fun σ S Q => ta σ S fun x S1 => match x with
  | .bl true => tb σ S1 Q
  | .bl false => Q (.bl false) S1
  | _ => False
def tOrV (ta tb : TED) : TED := fun σ S Q => ta σ S fun x S1 => match x with
  | .bl true => Q (.bl true) S1
  | .bl false => tb σ S1 Q
  | _ => False
def tNotV (ta : TED) : TED := fun σ S Q => ta σ S fun x S1 => match x with
  | .bl k => Q (.bl (!k)) S1
  | _ => False
theorem de_one {op} (h : DE X a ta) : DE X (.BoolOp op [a] pos) ta := pe_one h
theorem de_and (ha : DE X a ta) (hb : DE X (.BoolOp .And (b :: rest) pos) tb) : DE X (.BoolOp .And (a :: b :: rest) pos) (tAndV ta tb) :=
  (pe_and ha hb).imp fun σ H Q ⟨G, σd, S, Qd, rs, rh, t, p⟩ => ⟨G, σd, S, _, rs, rh, t, fun S1 d v H1 f1 rh1 q1 t1 => by
    cases q1 with
    | bl k =>
      refine ⟨k, rfl, ?_⟩
      cases k with
      | true => rw [if_pos rfl]; exact ⟨G, σd, S1, _, rs.fl f1, rh1, t1, p.fl f1⟩
      | false => rw [if_neg Bool.false_ne_true]; exact p S1 _ _ H1 f1 rh1 (.bl _) t1
    | _ => exact t1.elim⟩
theorem de_or (ha : DE X a ta) (hb : DE X (.BoolOp .Or (b :: rest) pos) tb) : DE X (.BoolOp .Or (a :: b :: rest) pos) (tOrV ta tb) :=
  (pe_or ha hb).imp fun σ H Q ⟨G, σd, S, Qd, rs, rh, t, p⟩ => ⟨G, σd, S, _, rs, rh, t, fun S1 d v H1 f1 rh1 q1 t1 => by
    cases q1 with
    | bl k =>
      refine ⟨k, rfl, ?_⟩
      cases k with
      | false => rw [if_neg Bool.false_ne_true]; exact ⟨G, σd, S1, _, rs.fl f1, rh1, t1, p.fl f1⟩
      | true => rw [if_pos rfl]; exact p S1 _ _ H1 f1 rh1 (.bl _) t1
    | _ => exact t1.elim⟩
theorem de_not (ha : DE X a ta) : DE X (.UnaryOp .Not a pos) (tNotV ta) :=
  (pe_not ha).imp fun σ H Q ⟨G, σd, S, Qd, rs, rh, t, p⟩ => ⟨G, σd, S, _, rs, rh, t, fun S1 d v H1 f1 rh1 q1 t1 => by
    cases q1 with
    | bl k => exact ⟨k, rfl, p S1 _ _ H1 f1 rh1 (.bl _) t1⟩
    | _ => exact t1.elim⟩
/-- one operand -/
abbrev R1D := D → HD → QD → Prop
def tUnD (r : R1D) (ta : TED) : TED := fun σ S Q => ta σ S fun x S1 => r x S1 Q
def rNeg : R1D := fun x S Q => match x with
  | .int i => Q (.int (-i)) S
  | _ => False
theorem de_neg (ha : DE X a ta) : DE X (.UnaryOp .USub a pos) (tUnD rNeg ta) :=
  (pe_un un_neg ha).imp fun σ H Q ⟨G, σd, S, Qd, rs, rh, t, p⟩ => ⟨G, σd, S, _, rs, rh, t, fun S1 d v H1 f1 rh1 q1 t1 => by
    cases q1 with
    | int i => exact ⟨i, rfl, p S1 _ _ H1 f1 rh1 (.int _) t1⟩
    | _ => exact t1.elim⟩
end
end PD
end

section
/-! PD3: statements, targets, loops over deep values. -/
namespace PD
open PySem PySem.Spec PyProof.Rows L2

structure EndsD where
  nx : SD → HD → Prop
  rt : QD
  bk : SD → HD → Prop := fun _ _ => False
  ct : SD → HD → Prop := fun _ _ => False
  xr : Addr → SD → HD → Prop := fun _ _ _ => False
abbrev TSD := EndsD → SD → HD → Prop
abbrev TGD := D → SD → HD → (SD → HD → Prop) → Prop
abbrev TGsD := List D → SD → HD → (SD → HD → Prop) → Prop

section
variable (K : PySem.W.Frag) (G : Addr → Prop) (S : HD) (H : Hp)
def PostS (nd : SD → HD → Prop) (n : L2.St → Hp → Prop) : Prop := ∀ S' σd σ H', FL S H S' H' → RH K G S' H' → RSl K G S' H' σd σ → nd σd S' → n σ H'
structure PEnds (W : WX) (Dd : EndsD) (D : Ends) : Prop where
  nx : PostS K G S H Dd.nx D.nx
  rt : Post K G S H Dd.rt D.rt
  bk : PostS K G S H Dd.bk D.bk
  ct : PostS K G S H Dd.ct D.ct
  xr : ∀ C S' σd σ H', FL S H S' H' → RH K G S' H' → RSl K G S' H' σd σ → Dd.xr C σd S' → W (.ref C) none σ H'
end
/-- what X takes of exceptions -/
def WXof (X : Cx) : WX := fun cls d σ H => ∀ u s', L2.XE X (fun c' d' σ' H' => c' = cls ∧ d' = d ∧ σ' = σ ∧ H' = H) u s' → X.xe u s'
theorem takes_wx (X : Cx) : L2.Takes X (WXof X) := fun u s' ⟨a, B, sI, pins, σ, H, cls, d, e, I, nb, up, sky, na, os, ag, w⟩ => w u s' ⟨a, B, sI, pins, σ, H, cls, d, e, I, nb, up, sky, na, os, ag, rfl, rfl, rfl, rfl⟩
theorem wx_le {X : Cx} {W : WX} (t : L2.Takes X W) {cls : Value} {d : Option Addr} {σ : L2.St} {H : Hp} (w : W cls d σ H) : WXof X cls d σ H := fun u s' x => t u s' (by
  obtain ⟨a, B, sI, pins, σ', H', cls', d', e, I, nb, up, sky, na, os, ag, rfl, rfl, rfl, rfl⟩ := x
  exact ⟨a, B, sI, pins, _, _, _, _, e, I, nb, up, sky, na, os, ag, w⟩)
def upS (K : PySem.W.Frag) (W : WX) (t : TSD) : TS := fun D σ H => ∃ G σd S Dd, RSl K G S H σd σ ∧ RH K G S H ∧ t Dd σd S ∧ PEnds K G S H W Dd D
def upG (K : PySem.W.Frag) (t : TGD) : TG := fun v σ H Q => ∃ G σd S d Qd, RSl K G S H σd σ ∧ RH K G S H ∧ RD K G S H d v ∧ t d σd S Qd ∧ PostS K G S H Qd Q
def upGs (K : PySem.W.Frag) (t : TGsD) : TGs := fun vs σ H Q => ∃ G σd S ds Qd, RSl K G S H σd σ ∧ RH K G S H ∧ RDs K G S H ds vs ∧ t ds σd S Qd ∧ PostS K G S H Qd Q
abbrev DS (X : Cx) (st : Stmt) (t : TSD) : Prop := PS X st (upS X.K (WXof X) t)
abbrev DSs (X : Cx) (st : List Stmt) (t : TSD) : Prop := PSs X st (upS X.K (WXof X) t)
abbrev DG (X : Cx) (tg : Expr) (t : TGD) : Prop := PG X tg (upG X.K t)
abbrev DGs (X : Cx) (tg : List Expr) (t : TGsD) : Prop := PGs X tg (upGs X.K t)

theorem _root_.L2.PS.imp {X : Cx} {st : Stmt} {t t' : TS} (h : PS X st t) (i : ∀ D σ H, t' D σ H → t D σ H) : PS X st t' := ⟨fun pins s σ H D I q => h.run pins s σ H D I (i _ _ _ q)⟩
theorem _root_.L2.PSs.imp {X : Cx} {st : List Stmt} {t t' : TS} (h : PSs X st t) (i : ∀ D σ H, t' D σ H → t D σ H) : PSs X st t' := ⟨fun pins s σ H D I q => h.run pins s σ H D I (i _ _ _ q)⟩
theorem _root_.L2.PG.imp {X : Cx} {tg : Expr} {t t' : TG} (h : PG X tg t) (i : ∀ v σ H Q, t' v σ H Q → t v σ H Q) : PG X tg t' := ⟨fun pins s σ H v u Q I r q => h.run pins s σ H v u Q I r (i _ _ _ _ q)⟩
theorem _root_.L2.PGs.imp {X : Cx} {tg : List Expr} {t t' : TGs} (h : PGs X tg t) (i : ∀ v σ H Q, t' v σ H Q → t v σ H Q) : PGs X tg t' := ⟨fun pins s σ H v u Q I r q => h.run pins s σ H v u Q I r (i _ _ _ _ q)⟩
section
variable {K : PySem.W.Frag} {G : Addr → Prop} {S S1 : HD} {H H1 : Hp}
theorem PostS.fl {nd : SD → HD → Prop} {n : L2.St → Hp → Prop} (p : PostS K G S H nd n) (f : FL S H S1 H1) : PostS K G S1 H1 nd n := fun S' d v H' f' => p S' d v H' (f.trans f')
theorem PEnds.fl {W : WX} {Dd : EndsD} {D : Ends} (p : PEnds K G S H W Dd D) (f : FL S H S1 H1) : PEnds K G S1 H1 W Dd D := ⟨p.nx.fl f, p.rt.fl f, p.bk.fl f, p.ct.fl f, fun C S' σd σ H' f' => p.xr C S' σd σ H' (f.trans f')⟩
theorem PostS.here {nd : SD → HD → Prop} {n : L2.St → Hp → Prop} (p : PostS K G S H nd n) (r : RH K G S H) {σd : SD} {σ : L2.St} (rs : RSl K G S H σd σ) (h : nd σd S) : n σ H := p S σd σ H (.refl _ _) r rs h
end

/-! ### blocks and small statements -/
section
variable {X : Cx} {st : Stmt} {rest : List Stmt} {t u : TSD} {e : Expr} {te : TED} {pos : Pos}
def sNextD : TSD := fun D σ S => D.nx σ S
def sSeqD (t u : TSD) : TSD := fun D σ S => t { D with nx := u D } σ S
theorem dss_nil : DSs X [] sNextD := pss_nil.imp fun D σ H ⟨G, σd, S, Dd, rs, rh, t, p⟩ => p.nx.here rh rs t
theorem dss_cons (h1 : DS X st t) (h2 : DSs X rest u) : DSs X (st :: rest) (sSeqD t u) :=
  (pss_cons h1 h2).imp fun D σ H ⟨G, σd, S, Dd, rs, rh, q, p⟩ =>
    ⟨G, σd, S, _, rs, rh, q, fun S1 σd1 σ1 H1 f1 rh1 rs1 q1 => ⟨G, σd1, S1, Dd, rs1, rh1, q1, p.fl f1⟩, p.rt, p.bk, p.ct, p.xr⟩
theorem dss_one (h1 : DS X st t) : DSs X [st] t := pss_one h1
def sBreakD : TSD := fun D σ S => D.bk σ S
def sContD : TSD := fun D σ S => D.ct σ S
theorem ds_pass : DS X (.Pass pos) sNextD := ps_pass.imp fun D σ H ⟨G, σd, S, Dd, rs, rh, t, p⟩ => p.nx.here rh rs t
theorem ds_break : DS X (.Break pos) sBreakD := ps_break.imp fun D σ H ⟨G, σd, S, Dd, rs, rh, t, p⟩ => p.bk.here rh rs t
theorem ds_continue : DS X (.Continue pos) sContD := ps_continue.imp fun D σ H ⟨G, σd, S, Dd, rs, rh, t, p⟩ => p.ct.here rh rs t
theorem ds_doc {x j pos pos'} : DS X (.Expr (.Constant (.str x) j pos) pos') sNextD := ps_doc.imp fun D σ H ⟨G, σd, S, Dd, rs, rh, t, p⟩ => p.nx.here rh rs t
def sDropD (te : TED) : TSD := fun D σ S => te σ S fun _ S1 => D.nx σ S1
theorem ds_expr (he : DE X e te) (hs : swapsWith e none pos.line X.env = pure false := by rfl) : DS X (.Expr e pos) (sDropD te) :=
  (ps_expr he hs).imp fun D σ H ⟨G, σd, S, Dd, rs, rh, t, p⟩ => ⟨G, σd, S, _, rs, rh, t, fun S1 d v H1 f1 rh1 q1 t1 => p.nx S1 σd σ H1 f1 rh1 (rs.fl f1) t1⟩
def sRetD (te : TED) : TSD := fun D σ S => te σ S D.rt
theorem ds_ret (he : DE X e te) : DS X (.Return (some e) pos) (sRetD te) :=
  (ps_ret he).imp fun D σ H ⟨G, σd, S, Dd, rs, rh, t, p⟩ => ⟨G, σd, S, _, rs, rh, t, p.rt⟩
def sRetND : TSD := fun D _ S => D.rt .non S
theorem ds_retN : DS X (.Return none pos) sRetND := ps_retN.imp fun D σ H ⟨G, σd, S, Dd, rs, rh, t, p⟩ => p.rt.here rh .non t
def sIfD (c : TTD) (t u : TSD) : TSD := fun D σ S => c σ S fun b S1 => if b = true then t D σ S1 else u D σ S1
theorem ds_if {c : Expr} {a b : List Stmt} {tc : TTD} (hc : DT X c tc) (ha : DSs X a t) (hb : DSs X b u) : DS X (.If c a b pos) (sIfD tc t u) :=
  (ps_if hc ha hb).imp fun D σ H ⟨G, σd, S, Dd, rs, rh, t, p⟩ => ⟨G, σd, S, _, rs, rh, t, fun S1 k H1 f1 rh1 t1 => by
    cases k with
    | true => rw [if_pos rfl] at t1 ⊢; exact ⟨G, σd, S1, Dd, rs.fl f1, rh1, t1, p.fl f1⟩
    | false => rw [if_neg Bool.false_ne_true] at t1 ⊢; exact ⟨G, σd, S1, Dd, rs.fl f1, rh1, t1, p.fl f1⟩⟩
def sNeverD : TSD := fun _ _ _ => False
theorem ds_never : DS X st sNeverD := ⟨fun _ _ _ _ _ _ ⟨_, _, _, _, _, _, q, _⟩ => q.elim⟩
theorem dss_never {sts : List Stmt} : DSs X sts sNeverD := ⟨fun _ _ _ _ _ _ ⟨_, _, _, _, _, _, q, _⟩ => q.elim⟩
end

/-! ### targets -/
section
variable {X : Cx} {pos : Pos}
/-- set a slot -/
def st : SD → Nat → D → SD
  | [], _, _ => []
  | _ :: r, 0, d => some d :: r
  | x :: r, n + 1, d => x :: st r n d
theorem st_eq : ∀ (σ : SD) (i : Nat) (d : D), st σ i d = σ.set i (some d)
  | [], _, _ => rfl
  | _ :: _, 0, _ => rfl
  | x :: r, n + 1, d => by unfold st; rw [st_eq r n d]; rfl
def gNameD (i : Nat) : TGD := fun d σ S Q => Q (st σ i d) S
theorem dg_name (i : Nat) {e : Expr} (h : PG X e (gName i)) : DG X e (gNameD i) :=
  h.imp fun v σ H Q ⟨G, σd, S, d, Qd, rs, rh, q, t, p⟩ => p S _ _ H (.refl _ _) rh (by rw [st_eq]; exact rs.set q i) t
def gNilD : TGsD := fun ds σ S Q => ds = [] ∧ Q σ S
def gConsD (t : TGD) (u : TGsD) : TGsD := fun ds σ S Q => match ds with
  | d :: r => t d σ S fun σ' S' => u r σ' S' Q
  | [] => False
theorem dgs_nil : DGs X [] gNilD := pgs_nil.imp fun vs σ H Q ⟨G, σd, S, ds, Qd, rs, rh, q, ⟨e, t⟩, p⟩ => by
  subst e
  cases q
  exact ⟨rfl, p.here rh rs t⟩
theorem dgs_cons {e : Expr} {es : List Expr} {t : TGD} {u : TGsD} (h1 : DG X e t) (h2 : DGs X es u)
    (hs : (assignEach (e :: es) X.env).map (·.2) = assign e X.env :: (assignEach es X.env).map (·.2) := by rfl) : DGs X (e :: es) (gConsD t u) :=
  (pgs_cons h1 h2 hs).imp fun vs σ H Q ⟨G, σd, S, ds, Qd, rs, rh, q, tt, p⟩ => by
    cases q with
    | nil => exact tt.elim
    | cons q qs =>
      exact ⟨_, _, rfl, G, σd, S, _, _, rs, rh, q, tt, fun S1 σd1 σ1 H1 f1 rh1 rs1 q1 => ⟨G, σd1, S1, _, Qd, rs1, rh1, qs.fl f1, q1, p.fl f1⟩⟩
def gTupD (n : Nat) (t : TGsD) : TGD := fun d σ S Q => match d with
  | .tup ds => ds.length = n ∧ t ds σ S Q
  | _ => False
theorem FzT.sq {K : PySem.W.Frag} {G : Addr → Prop} {S : HD} {H : Hp} {a : Addr} {vs : List V} (h : FzT K G S H a vs) : SqT K H a vs := h.imp (fun z => z.2) fun ⟨o, its, n, h⟩ => ⟨o, its, n, h⟩
theorem FzL.sq {K : PySem.W.Frag} {G : Addr → Prop} {S : HD} {H : Hp} {a : Addr} {vs : List V} (h : FzL K G S H a vs) : SqL K H a vs := h.imp (fun z => z.2) fun ⟨o, its, n, h⟩ => ⟨o, its, n, h⟩
theorem dg_tup {es : List Expr} {k : Nat} {t : TGsD} {n : Nat} (hc : X.calm = true) (h : DGs X es t)
    (hn : (assignEach es X.env).length = n := by rfl) (hst : (assignEach es X.env).findIdx? (·.1) = none := by rfl) : DG X (.Tuple es k pos) (gTupD n t) :=
  (pg_tup hc h hn hst).imp fun v σ H Q ⟨G, σd, S, d, Qd, rs, rh, q, tt, p⟩ => by
    cases q with
    | @tup a vs ds h r =>
      obtain ⟨l, tt⟩ := tt
      exact ⟨a, vs, rfl, h.sq, r.length ▸ l, G, σd, S, _, _, rs, rh, r, tt, p⟩
    | _ => exact tt.elim
/-- target = value -/
def sAsgD (te : TED) (g : TGD) : TSD := fun D σ S => te σ S fun x S1 => g x σ S1 D.nx
theorem up_asg {K : PySem.W.Frag} {W : WX} {te : TED} {g : TGD} : ∀ D σ H, upS K W (sAsgD te g) D σ H → tAsg (up K te) (upG K g) D σ H := fun D σ H ⟨G, σd, S, Dd, rs, rh, t, p⟩ =>
  ⟨G, σd, S, _, rs, rh, t, fun S1 d v H1 f1 rh1 q1 t1 => ⟨G, σd, S1, d, _, rs.fl f1, rh1, q1, t1, p.nx.fl f1⟩⟩
theorem up_asgN {K : PySem.W.Frag} {W : WX} {te : TED} {i : Nat} : ∀ D σ H, upS K W (sAsgD te (gNameD i)) D σ H → tAsg (up K te) (gName i) D σ H := fun D σ H ⟨G, σd, S, Dd, rs, rh, t, p⟩ =>
  ⟨G, σd, S, _, rs, rh, t, fun S1 d v H1 f1 rh1 q1 t1 => p.nx S1 _ _ H1 f1 rh1 ((rs.fl f1).set q1 i) (st_eq σd i d ▸ t1)⟩
theorem ds_asg {tg e : Expr} {te : TED} {g : TGD} (he : DE X e te) (hg : DG X tg g) (hs : swapsWithSole [tg] e pos.line X.env = pure false := by rfl) (hw : swappedStores [tg] e X.env = pure none := by rfl)
    (h1 : (assignEach [tg] X.env).map (·.2) = [assign tg X.env] := by rfl) : DS X (.Assign [tg] e pos) (sAsgD te g) := (ps_asg he hg hs hw h1).imp up_asg
theorem ds_set (i : Nat) {x : Str} {e : Expr} {te : TED} {pos' : Pos} (hN : X.N.Nodup) (he : DE X e te) (hi : X.N[i]? = some x := by rfl) (hx : Loc X.env.scope x := by first | exact .inl rfl | exact .inr rfl) (hs : swapsWith e (some (.Name x pos')) pos.line X.env = pure false := by rfl) (hf : X.fn x = true ∨ X.env.scope.names.lookup x = some .local := by first | exact .inl rfl | exact .inr rfl | assumption) :
    DS X (.Assign [.Name x pos'] e pos) (sAsgD te (gNameD i)) := (ps_set hN hi hx he hs hf).imp up_asgN
/-- a, b = x, y with plain local names -/
def sPar2 (i j : Nat) (ta : TAD) : TSD := fun D σ S => ta σ S fun ds S1 => match ds with
  | [d, e] => D.nx (st (st σ i d) j e) S1
  | _ => False
theorem ds_par (i j : Nat) {x y : Str} {a b : Expr} {ta : TAD} {px py pt : Pos} {kt k2 pt2} (hN : X.N.Nodup) (ha : DA X [a, b] ta) (hc : X.calm = true := by rfl) (hi : X.N[i]? = some x := by rfl) (hj : X.N[j]? = some y := by rfl) (hij : i ≠ j := by decide)
    (hx : X.env.scope.names.lookup x = some .local := by rfl) (hy : X.env.scope.names.lookup y = some .local := by rfl)
    (hw : swappedStores [.Tuple [.Name x px, .Name y py] kt pt] (.Tuple [a, b] k2 pt2) X.env = pure (some [x, y]) := by rfl)
    (hs : swapsWithSole [.Tuple [.Name x px, .Name y py] kt pt] (.Tuple [a, b] k2 pt2) pos.line X.env = pure false := by rfl) :
    DS X (.Assign [.Tuple [.Name x px, .Name y py] kt pt] (.Tuple [a, b] k2 pt2) pos) (sPar2 i j ta) :=
  (ps_par hc hN hi hj hij hx hy ha hw hs).imp fun D σ H ⟨G, σd, S, Dd, rs, rh, t, p⟩ =>
    ⟨G, σd, S, _, rs, rh, t, fun S1 ds vs H1 f1 rh1 q1 t1 => by
      cases q1 with
      | nil => exact t1.elim
      | cons q1 r =>
        cases r with
        | nil => exact t1.elim
        | cons q2 r =>
          cases r with
          | cons _ _ => exact t1.elim
          | nil => exact ⟨_, _, rfl, p.nx S1 _ _ H1 f1 rh1 (by rw [st_eq, st_eq]; exact ((rs.fl f1).set q1 i).set q2 j) t1⟩⟩
def sPar3 (i j l : Nat) (ta : TAD) : TSD := fun D σ S => ta σ S fun ds S1 => match ds with
  | [d, e, f] => D.nx (st (st (st σ i d) j e) l f) S1
  | _ => False
theorem ds_par3 (i j l : Nat) {x y z : Str} {a b c : Expr} {ta : TAD} {px py pz pt : Pos} {kt k2 pt2} (hN : X.N.Nodup) (ha : DA X [a, b, c] ta) (hc : X.calm = true := by rfl) (hi : X.N[i]? = some x := by rfl) (hj : X.N[j]? = some y := by rfl) (hl : X.N[l]? = some z := by rfl) (hij : i ≠ j := by decide) (hil : i ≠ l := by decide) (hjl : j ≠ l := by decide)
    (hx : X.env.scope.names.lookup x = some .local := by rfl) (hy : X.env.scope.names.lookup y = some .local := by rfl) (hz : X.env.scope.names.lookup z = some .local := by rfl)
    (hw : swappedStores [.Tuple [.Name x px, .Name y py, .Name z pz] kt pt] (.Tuple [a, b, c] k2 pt2) X.env = pure (some [x, y, z]) := by rfl)
    (hs : swapsWithSole [.Tuple [.Name x px, .Name y py, .Name z pz] kt pt] (.Tuple [a, b, c] k2 pt2) pos.line X.env = pure false := by rfl) :
    DS X (.Assign [.Tuple [.Name x px, .Name y py, .Name z pz] kt pt] (.Tuple [a, b, c] k2 pt2) pos) (sPar3 i j l ta) :=
  (ps_par3 hc hN hi hj hl hij hil hjl hx hy hz ha hw hs).imp fun D σ H ⟨G, σd, S, Dd, rs, rh, t, p⟩ =>
    ⟨G, σd, S, _, rs, rh, t, fun S1 ds vs H1 f1 rh1 q1 t1 => by
      cases q1 with
      | nil => exact t1.elim
      | cons q1 r =>
        cases r with
        | nil => exact t1.elim
        | cons q2 r =>
          cases r with
          | nil => exact t1.elim
          | cons q3 r =>
            cases r with
            | cons _ _ => exact t1.elim
            | nil => exact ⟨_, _, _, rfl, p.nx S1 _ _ H1 f1 rh1 (by rw [st_eq, st_eq, st_eq]; exact (((rs.fl f1).set q1 i).set q2 j).set q3 l) t1⟩⟩
end

/-! ### what is walked: a list of deep items, that stay as long as keep holds -/
structure ItOk (K : PySem.W.Frag) (G : Addr → Prop) (S : HD) (H : Hp) (J : It) (xs : List D) (keep : HD → Prop) : Prop where
  go : ∀ (i : Nat) (d : D) (S1 : HD) (H1 : Hp), xs[i]? = some d → FL S H S1 H1 → RH K G S1 H1 → keep S1 → J.go i H1 ∧ ∀ x H2, J.yld i H1 x H2 → FL S1 H1 S1 H2 ∧ RH K G S1 H2 ∧ RD K G S1 H2 d x
  stop : ∀ (S1 : HD) (H1 : Hp), FL S H S1 H1 → RH K G S1 H1 → keep S1 → J.stop xs.length H1
abbrev TID := SD → HD → (List D → (HD → Prop) → HD → Prop) → Prop
def upI (K : PySem.W.Frag) (t : TID) : TI := fun σ H R => ∃ G σd S Rd, RSl K G S H σd σ ∧ RH K G S H ∧ t σd S Rd ∧
  ∀ S' J xs keep H', FL S H S' H' → RH K G S' H' → (∀ G' S2 H2, Mv G S' H' G' S2 H2 → RH K G' S2 H2 → ItOk K G' S2 H2 J xs keep) → Rd xs keep S' → R J H'
abbrev DI (X : Cx) (tg iter : Expr) (t : TID) : Prop := PI X tg iter (upI X.K t)
theorem _root_.L2.PI.imp {X : Cx} {tg e : Expr} {t t' : TI} (h : PI X tg e t) (i : ∀ σ H R, t' σ H R → t σ H R) : PI X tg e t' := ⟨fun pins s σ H R I q => h.run pins s σ H R I (i _ _ _ q)⟩

/-- the loop over the items -/
def loopD (g : TGD) (tb : TSD) (E : EndsD) (keep : HD → Prop) : List D → SD → HD → Prop
  | [], σ, S => keep S ∧ E.nx σ S
  | d :: r, σ, S => keep S ∧ g d σ S fun σ2 S2 => tb { nx := loopD g tb E keep r, ct := loopD g tb E keep r, bk := E.nx, rt := E.rt, xr := E.xr } σ2 S2
def sForD (ti : TID) (g : TGD) (tb : TSD) : TSD := fun D σ S => ti σ S fun xs keep S1 => loopD g tb D keep xs σ S1
section
variable {X : Cx} {pos : Pos}
theorem ds_for {tg iter : Expr} {body : List Stmt} {ti : TID} {g : TGD} {tb : TSD} (hp : PassesOwn (model X.prog X.w) X.A X.env X.xe) (hi : DI X tg iter ti) (hg : DG X tg g) (hb : DSs X body tb) (hc : X.calm = true := by rfl)
    (hs : ∀ x, foldedSetIterable iter X.env x = pure x := by intro _; rfl) : DS X (.For tg iter body [] pos) (sForD ti g tb) :=
  (ps_for hp hc hi hg hb hs).imp fun D σ H ⟨G, σd, S, Dd, rs, rh, t, p⟩ => by
    refine ⟨G, σd, S, _, rs, rh, t, fun S1 J xs keep H1 f1 rh1 hJ t1 => ?_⟩
    have ok := hJ G S1 H1 (FL.refl _ _).mv rh1
    refine ⟨fun i m σ2 H2 => m = xs.length - i ∧ i ≤ xs.length ∧ ∃ σd2 S2, FL S1 H1 S2 H2 ∧ RSl X.K G S2 H2 σd2 σ2 ∧ RH X.K G S2 H2 ∧ loopD g tb Dd keep (xs.drop i) σd2 S2,
      ⟨xs.length, by simp, Nat.zero_le _, σd, S1, .refl _ _, rs.fl f1, rh1, t1⟩, ?_⟩
    rintro i m σ2 H2 ⟨rfl, hi, σd2, S2, f2, rs2, rh2, t2⟩
    by_cases hlt : i < xs.length
    · have hx : xs[i]? = some xs[i] := by simp [hlt]
      rw [List.drop_eq_getElem_cons hlt] at t2
      obtain ⟨k2, t2⟩ := t2
      obtain ⟨go, yl⟩ := ok.go i _ S2 H2 hx f2 rh2 k2
      refine .inr ⟨go, fun σ' H' => ∃ σd2 S2, FL S1 H1 S2 H' ∧ RSl X.K G S2 H' σd2 σ' ∧ RH X.K G S2 H' ∧ loopD g tb Dd keep (xs.drop (i + 1)) σd2 S2, fun σ' H' n => ⟨_, by omega, rfl, hlt, n⟩, fun x H3 y => ?_⟩
      obtain ⟨f3, rh3, q3⟩ := yl x H3 y
      refine ⟨G, σd2, S2, _, _, rs2.fl f3, rh3, q3, t2, fun S4 σd4 σ4 H4 f4 rh4 rs4 t4 => ?_⟩
      have f14 := f2.trans (f3.trans f4)
      refine ⟨G, σd4, S4, _, rs4, rh4, t4, fun S5 σd5 σ5 H5 f5 rh5 rs5 t5 => ⟨σd5, S5, f14.trans f5, rs5, rh5, t5⟩, p.rt.fl (f1.trans f14), p.nx.fl (f1.trans f14), fun S5 σd5 σ5 H5 f5 rh5 rs5 t5 => ⟨σd5, S5, f14.trans f5, rs5, rh5, t5⟩, (p.fl (f1.trans f14)).xr⟩
    · have e : i = xs.length := by omega
      subst e
      rw [List.drop_length] at t2
      exact .inl ⟨ok.stop S2 H2 f2 rh2 t2.1, p.nx S2 _ _ H2 (f1.trans f2) rh2 rs2 t2.2⟩

/-! ### while: by a number of turns -/
def whileN (c : TTD) (tb : TSD) (D : EndsD) : Nat → SD → HD → Prop
  | 0, _, _ => False
  | n + 1, σ, S => c σ S fun b S1 => if b = true then tb { nx := whileN c tb D n, ct := whileN c tb D n, bk := D.nx, rt := D.rt, xr := D.xr } σ S1 else D.nx σ S1
def sWhileD (c : TTD) (tb : TSD) : TSD := fun D σ S => ∃ n, whileN c tb D n σ S
theorem ds_while {c : Expr} {body : List Stmt} {tc : TTD} {tb : TSD} (hp : PassesOwn (model X.prog X.w) X.A X.env X.xe) (hc : DT X c tc) (hb : DSs X body tb) : DS X (.While c body [] pos) (sWhileD tc tb) :=
  (ps_while hp hc hb).imp fun D σ H ⟨G, σd, S, Dd, rs, rh, ⟨n, t⟩, p⟩ => by
    refine ⟨fun m σ2 H2 => ∃ σd2 S2, FL S H S2 H2 ∧ RSl X.K G S2 H2 σd2 σ2 ∧ RH X.K G S2 H2 ∧ whileN tc tb Dd m σd2 S2, ⟨n, σd, S, .refl _ _, rs, rh, t⟩, ?_⟩
    rintro m σ2 H2 ⟨σd2, S2, f2, rs2, rh2, t2⟩
    cases m with
    | zero => exact t2.elim
    | succ m =>
      refine ⟨G, σd2, S2, _, rs2, rh2, t2, fun S3 b H3 f3 rh3 t3 => ?_⟩
      have f13 := f2.trans f3
      cases b with
      | true =>
        refine iteT ?_
        exact ⟨fun σ' H' => ∃ σd2 S2, FL S H S2 H' ∧ RSl X.K G S2 H' σd2 σ' ∧ RH X.K G S2 H' ∧ whileN tc tb Dd m σd2 S2, fun σ' H' n => ⟨m, Nat.lt_succ_self _, n⟩,
          G, σd2, S3, _, rs2.fl f3, rh3, t3, fun S5 σd5 σ5 H5 f5 rh5 rs5 t5 => ⟨σd5, S5, f13.trans f5, rs5, rh5, t5⟩, p.rt.fl f13, p.nx.fl f13, fun S5 σd5 σ5 H5 f5 rh5 rs5 t5 => ⟨σd5, S5, f13.trans f5, rs5, rh5, t5⟩, (p.fl f13).xr⟩
      | false =>
        refine iteF ?_
        exact p.nx S3 _ _ H3 f13 rh3 (rs2.fl f3) t3
end
end PD
end

section
/-! PD4: what a def promises over deep values; calls; comprehensions. -/
namespace PD
open PySem PySem.Spec PyProof.Rows L2

structure RoomG (k : Nat) (A : Around) : Prop where
  rm : Room k A
  gd : A.guards = some []
theorem RoomG.mono {j k : Nat} {A : Around} (r : RoomG k A) (h : j ≤ k) : RoomG j A := ⟨r.rm.mono h, r.gd⟩
theorem RoomG.deeper {k : Nat} {A : Around} (r : RoomG (k + 1) A) (env : Env) : RoomG k (A.deeper env) := ⟨r.rm.deeper env, r.gd⟩
theorem RoomG.un1 {k : Nat} {A : Around} (r : RoomG k A) : A.units + 1 < cLine := hu_of r.rm
theorem RoomG.un64 {k : Nat} {A : Around} (r : RoomG k A) : A.units + 64 < cLine := r.rm.units
theorem RoomG.un65 {k : Nat} {A : Around} (r : RoomG k A) : A.units + 65 < cLine := by have := r.rm.un; omega

abbrev SpD := List D → HD → QD → Prop
/-- the end of a call -/
def CED (K : PySem.W.Frag) (G : Addr → Prop) (S : HD) (H : Hp) (Qd : QD) : VK := fun v H' => ∃ S' d, FL S H S' H' ∧ RH K G S' H' ∧ RD K G S' H' d v ∧ Qd d S'
structure FnD (P : Program) (w : World) (K : PySem.W.Frag) (mg : Str → Option Value) (base : Heap) (k : Nat) (f : Addr) (fd : FuncData) (ps : List Str) (sp : SpD) : Prop where
  len : ∀ ds S Q, sp ds S Q → ds.length = ps.length
  run : ∀ (A : Around) (outer : List Env) (s : Shared) (H : Hp) (args : Args) (us : List Value) (vs : List V) (ds : List D) (G : Addr → Prop) (S : HD) (Qd : QD), RoomG k A → Env0 P w K mg base A outer s H →
    BindsTo s fd args (ps.zip us) → Vals vs us → RDs K G S H ds vs → RH K G S H → sp ds S Qd → codeAny (model P w) A (.call (.ref f) args) (CR CX0 outer P w H s (CED K G S H Qd) E0) s
theorem FnD.mono {P : Program} {w : World} {K : PySem.W.Frag} {mg : Str → Option Value} {base : Heap} {j k : Nat} {f : Addr} {fd : FuncData} {ps : List Str} {sp : SpD} (F : FnD P w K mg base j f fd ps sp) (h : j ≤ k) : FnD P w K mg base k f fd ps sp :=
  ⟨F.len, fun A outer s H args us vs ds G S Qd hr => F.run A outer s H args us vs ds G S Qd (hr.mono h)⟩
theorem FnD.imp {P : Program} {w : World} {K : PySem.W.Frag} {mg : Str → Option Value} {base : Heap} {k : Nat} {f : Addr} {fd : FuncData} {ps : List Str} {sp sp' : SpD} (F : FnD P w K mg base k f fd ps sp) (h : ∀ ds S Q, sp' ds S Q → sp ds S Q) : FnD P w K mg base k f fd ps sp' :=
  ⟨fun ds S Q q => F.len ds S Q (h _ _ _ q), fun A outer s H args us vs ds G S Qd hr e b v r rh q => F.run A outer s H args us vs ds G S Qd hr e b v r rh (h _ _ _ q)⟩

/-- a def of the module by its name -/
structure Has (P : Program) (w : World) (K : PySem.W.Frag) (mg : Str → Option Value) (base : Heap) (k : Nat) (x : Str) (ps : List Str) (sp : SpD) : Prop where
  ex : ∃ f fd, mg x = some (.ref f) ∧ PySem.W.keepIn K (.ref f) = true ∧ Binds K fd ps [] ∧ FnD P w K mg base k f fd ps sp
theorem Has.mono {P : Program} {w : World} {K : PySem.W.Frag} {mg : Str → Option Value} {base : Heap} {j k : Nat} {x : Str} {ps : List Str} {sp : SpD} (h : Has P w K mg base j x ps sp) (l : j ≤ k) : Has P w K mg base k x ps sp :=
  let ⟨f, fd, a, b, c, d⟩ := h.ex; ⟨f, fd, a, b, c, d.mono l⟩
theorem Has.imp {P : Program} {w : World} {K : PySem.W.Frag} {mg : Str → Option Value} {base : Heap} {k : Nat} {x : Str} {ps : List Str} {sp sp' : SpD} (h : Has P w K mg base k x ps sp) (i : ∀ ds S Q, sp' ds S Q → sp ds S Q) : Has P w K mg base k x ps sp' :=
  let ⟨f, fd, a, b, c, d⟩ := h.ex; ⟨f, fd, a, b, c, d.imp i⟩

def tCallD (sp : SpD) (ta : TAD) : TED := fun σ S Q => ta σ S fun ds S1 => sp ds S1 Q
section
variable {X : Cx} {k : Nat} {f : Addr} {fd : FuncData} {ps : List Str} {sp : SpD} {x : Str} {p pos : Pos} {e : Expr} {es : List Expr} {ta : TAD}
/-- the callee runs, from a body -/
theorem run_fnD {pins : List (Addr × Obj)} {σ : L2.St} {H : Hp} {s : Shared} {us : List Value} {vs : List V} {ds : List D} {G : Addr → Prop} {S : HD} {Qd : QD} {Q : VK}
    (F : FnD X.prog X.w X.K X.mg X.base k f fd ps sp) (hr : RoomG k X.A) (hb : Binds X.K fd ps []) (I : Inv X pins σ H s) (r : Vals vs us) (q : RDs X.K G S H ds vs) (rh : RH X.K G S H) (h : sp ds S Qd) (p : Post X.K G S H Qd Q) :
    wpAny (model X.prog X.w) X.A (call (.ref f) us) (EP X pins σ Q) X.xe s := by
  have hl : us.length = ps.length := by
    have h1 := F.len _ _ _ h
    have h2 := q.length
    have h3 := r.length
    omega
  have hb' := hb s us I.kIn (by rw [List.append_nil]; exact hl)
  rw [List.append_nil] at hb'
  refine wpAny_call (codeAny_mono (F.run X.A X.stack s H ⟨us, []⟩ us vs ds G S Qd hr I.env0 hb' r q rh h) fun z s' hq => ?_)
  cases z with
  | error e => exact False.elim hq
  | ok fl =>
    cases fl with
    | ret u =>
      have hq' : CE X.stack X.prog X.w H s Q u s' := by
        obtain ⟨v, H', h1, h2, h3, h4, h5, S', d, f', rh', rd', qd⟩ := hq
        exact ⟨v, H', h1, h2, h3, h4, h5, p S' d v H' f' rh' rd' qd⟩
      exact I.after hq'
    | next => exact False.elim hq
    | brk => exact False.elim hq
    | cont => exact False.elim hq
theorem de_call (h : Has X.prog X.w X.K X.mg X.base k x ps sp) (hr : RoomG k X.A) (ha : DA X (e :: es) ta) (hg : Gl X x := by rfl) (hdb : (x == ("__debug__" : Str)) = false := by decide)
    (he : starEach (e :: es) X.env = (false, eval e X.env) :: starEach es X.env := by rfl) (hpl : (backTo pos (starEach es X.env)).any (·.1) = false := by rfl) :
    DE X (.Call (.Name x p) (e :: es) [] pos) (tCallD sp ta) := by
  obtain ⟨f, fd, hm, hk, hb, F⟩ := h.ex
  refine ⟨fun pins s σ H Q I ⟨G, σd, S, Qd, rs, rh, t, p⟩ => ?_⟩
  refine wpAny_Call_Name_kw (ld_glob I hg hm ?_ hdb)
  have hA := ha.run pos pins s σ H (fun vs H1 => ∃ S1 ds, FL S H S1 H1 ∧ RH X.K G S1 H1 ∧ RDs X.K G S1 H1 ds vs ∧ sp ds S1 Qd) I ⟨G, σd, S, _, rs, rh, t, fun S1 ds vs H1 f1 rh1 q1 t1 => ⟨S1, ds, f1, rh1, q1, t1⟩⟩
  refine PySem.W.callWith_K (h₀ := X.base) I.ok.mod.kin hk ?_ he hpl
  refine thn hA fun us s1 hus => ?_
  obtain ⟨vs, H1, I1, r, S1, ds, f1, rh1, q1, t1⟩ := hus
  exact ⟨I1.kIn, run_fnD F hr hb I1 r q1 rh1 t1 (p.fl f1)⟩
theorem de_call0 (h : Has X.prog X.w X.K X.mg X.base k x ps sp) (hr : RoomG k X.A) (hg : Gl X x := by rfl) (hdb : (x == ("__debug__" : Str)) = false := by decide) : DE X (.Call (.Name x p) [] [] pos) (tCallD sp tNilD) := by
  obtain ⟨f, fd, hm, hk, hb, F⟩ := h.ex
  refine ⟨fun pins s σ H Q I ⟨G, σd, S, Qd, rs, rh, t, p⟩ => ?_⟩
  refine wpAny_Call_Name_kw (ld_glob I hg hm ?_ hdb)
  exact PySem.W.callWith_K0 I.kIn hk (run_fnD (us := []) F hr hb I .nil .nil rh t p)
end

/-! ### a def by its body -/
/-- the same value, told otherwise -/
def Cv (d : D) (S : HD) (d' : D) (S' : HD) : Prop := ∀ (K : PySem.W.Frag) (G : Addr → Prop) (H : Hp) (v : V), RH K G S H → RD K G S H d v → RH K G S' H ∧ FL S H S' H ∧ RD K G S' H d' v
theorem Cv.le {d : D} {S S' : HD} (l : HLe S' S) : Cv d S d S' := fun K G H v r q => ⟨r.le l, l.fl, q.mv l.mv⟩
theorem Cv.trans {d d1 d2 : D} {S S1 S2 : HD} (a : Cv d S d1 S1) (b : Cv d1 S1 d2 S2) : Cv d S d2 S2 := fun K G H v r q =>
  let ⟨r1, f1, q1⟩ := a K G H v r q; let ⟨r2, f2, q2⟩ := b K G H v r1 q1; ⟨r2, f1.trans f2, q2⟩
/-- a tracked list is frozen -/
theorem del_le (S : HD) (a : Addr) : HLe (S.del a) S := ⟨fun b u z => by
  unfold HD.del at z
  by_cases hb : b = a
  · simp [hb] at z
  · simpa [hb] using z, Nat.le_refl _, rfl⟩
theorem Cv.frz {a : Addr} {S : HD} {xs : List D} (h : S.hp a = some (.lst xs)) : Cv (.ref a) S (.lst xs) (S.del a) := fun K G H v r q => by
  obtain ⟨h1, h2, vs, h3, h4⟩ := r.hp a _ h
  cases q
  exact ⟨r.le (del_le S a), (del_le S a).fl, .lst (.inl ⟨⟨by simp [HD.del], fun z => h1 ((del_le S a).dkE.mp z), h2⟩, .inl h3⟩) (h4.mv (del_le S a).mv)⟩
/-- the end of a body: what is not wanted any more is forgotten -/
def fin (Q : QD) : QD := fun d S => ∃ S' d', Cv d S d' S' ∧ Q d' S'
theorem fin.le {Q : QD} {d : D} {S S' : HD} (l : HLe S S') (q : Q d S) : fin Q d S' := ⟨S, d, .le l, q⟩
theorem fin.frz {Q : QD} {a : Addr} {S S' : HD} {xs : List D} (h : S'.hp a = some (.lst xs)) (l : HLe S (S'.del a)) (q : Q (.lst xs) S) : fin Q (.ref a) S' := ⟨S, _, (Cv.frz h).trans (.le l), q⟩
def pad : Nat → List D → SD
  | 0, _ => []
  | n + 1, [] => none :: pad n []
  | n + 1, d :: r => some d :: pad n r
theorem pad_len : ∀ (n : Nat) (ds : List D), (pad n ds).length = n
  | 0, _ => rfl
  | n + 1, [] => by simp [pad, pad_len n []]
  | n + 1, d :: r => by simp [pad, pad_len n r]
theorem pad_nil (n : Nat) {i : Nat} {d : D} : (pad n [])[i]? ≠ some (some d) := by
  induction n generalizing i with
  | zero => simp [pad]
  | succ n ih =>
    cases i with
    | zero => simp [pad]
    | succ i => simpa [pad] using ih
theorem pad_slots {K : PySem.W.Frag} {G : Addr → Prop} {S : HD} {H : Hp} : ∀ {n : Nat} {ds : List D} {vs : List V} {i : Nat} {d : D}, RDs K G S H ds vs → (pad n ds)[i]? = some (some d) → ∃ v, vs[i]? = some v ∧ RD K G S H d v
  | 0, _, _, _, _, _, e => by simp [pad] at e
  | n + 1, [], _, i, d, _, e => (pad_nil (n + 1) e).elim
  | n + 1, _ :: _, _, 0, d, .cons q r, e => by
    simp [pad] at e
    subst e
    exact ⟨_, rfl, q⟩
  | n + 1, _ :: _, _, i + 1, d, .cons q r, e => by
    obtain ⟨v, h1, h2⟩ := pad_slots (n := n) (i := i) r (by simpa [pad] using e)
    exact ⟨v, by simpa using h1, h2⟩
section
variable {P : Program} {w : World} {K : PySem.W.Frag} {mg : Str → Option Value} {base : Heap}
/-- the core: the body's reading starts at a state and deep values that tell the same, and ends at what gives the call's end -/
theorem FnD.coreC {x qual : Str} {st : Stmt} {f : Addr} {fd : FuncData} {N ps : List Str} {k : Nat} {sp : SpD} (F : Fun K x qual st f fd) (Sc : FnScope N ps (defScope st)) (t : TSD) (len : ∀ ds S Q, sp ds S Q → ds.length = ps.length)
    (hd : ∀ (cdv : Value) (A : Around) (outer : List Env) (s : Shared) (H : Hp), fd.code = cdv → RoomG k (A.deeper (envOfC qual (defScope st) s.heap.objs.size f cdv)) →
      DSs (cxOf CX0 P w K mg base N qual (defScope st) f cdv A outer s H E0).nox (defBody st) t)
    (hq : ∀ ds S Qd, sp ds S Qd → ∀ G H vs, RH K G S H → RDs K G S H ds vs → ∃ ds' S0 Dd, RH K G S0 H ∧ RDs K G S0 H ds' vs ∧ t Dd (pad N.length ds') S0 ∧
      (∀ S' d v H', FL S0 H S' H' → RH K G S' H' → RD K G S' H' d v → Dd.rt d S' → CED K G S H Qd v H') ∧ (∀ S' σd H', FL S0 H S' H' → RH K G S' H' → Dd.nx σd S' → CED K G S H Qd .non H') ∧ (∀ σd S', ¬ Dd.bk σd S') ∧ (∀ σd S', ¬ Dd.ct σd S') ∧ ∀ C σd S', ¬ Dd.xr C σd S') : FnD P w K mg base (k + 1) f fd ps sp := by
  obtain ⟨oc, od, kV, doc, pm, an, cdv, ct, osl, rfl, lk, hcd⟩ := F.ex
  refine ⟨len, fun A outer s H args us vs ds G S Qd hr e0 hb r rd rh hsp => ?_⟩
  have hl : vs.length = ps.length := rd.length.symm.trans (len _ _ _ hsp)
  have KX : K.In s.heap := e0.mod.kin.keeps fun b o e => (e0.bs b o e).1
  have lim : s.heap.NoLimit := e0.mod.nolimit.keeps fun b o e => (e0.bs b o e).1
  refine codeAny_call_function hr.rm.depth (KX _ _ lk) rfl Sc.co Sc.gen rfl (PySem.W.codeRec_of KX hcd) (hb _ _ _ _ ?_)
  have hkind : ∀ y ∈ ps.zip us, (defScope st).names.lookup y.1 = some .local ∨ ((defScope st).names.lookup y.1 = some .cell ∧ ((cellsFrom (s.heap.objs.size + 1) (defScope st).names []).lookup y.1).isSome = true) := by
    rintro ⟨n, v⟩ hy
    exact (Sc.par n (List.of_mem_zip hy).1).imp id fun q => ⟨q, PySem.W.cellsFrom_some _ _ _ (.inl q)⟩
  refine wpAny_newFunctionEnv_cells Sc.kind hkind fun env he s1 x1 => ?_
  subst he
  refine ⟨lim.keeps x1.toInCall.keep, codeAny_func ?_⟩
  have I := inv_start (CX := CX0) (E := E0) Sc hr.rm.hd e0 hl r x1
  have ht := hd cdv A outer s H rfl (hr.deeper _)
  obtain ⟨ds', S0, Dd, rh0, rd0, hq0, hrt, hnx, hbk, hct, hxr⟩ := hq ds S Qd hsp G H vs rh rd
  have start_ok : RSl K G S0 H (pad N.length ds') (L2.start N vs) := by
    refine ⟨?_, fun i d e => ?_⟩
    · rw [pad_len]
      unfold L2.start
      have hpl : ps.length ≤ N.length := by have := congrArg List.length Sc.pre; rw [List.length_take] at this; omega
      simp
      omega
    · obtain ⟨v, h1, h2⟩ := pad_slots rd0 e
      refine ⟨v, ?_, h2⟩
      unfold L2.start
      have hi : i < vs.length := (List.getElem?_eq_some_iff.mp h1).1
      rw [List.getElem?_append_left (by simpa using hi), List.getElem?_map, h1]
      rfl
  refine wpAny_mono (ht.run [] s1 (L2.start N vs) H { nx := fun _ H' => CED K G S H Qd .non H', rt := CED K G S H Qd } (I.wish _) ⟨G, _, S0, Dd, start_ok, rh0, hq0, ?_, ?_, ?_, ?_, ?_⟩) (fun fl s' hs => ?_) fun e s' hs => False.elim hs
  · exact fun S' σd σ H' f' rh' rs' q => hnx S' σd H' f' rh' q
  · exact fun S' d v H' f' rh' rd' q => hrt S' d v H' f' rh' rd' q
  · exact fun S' σd σ H' f' rh' rs' q => (hbk _ _ q).elim
  · exact fun S' σd σ H' f' rh' rs' q => (hct _ _ q).elim
  · exact fun C S' σd σ H' f' rh' rs' q => (hxr _ _ _ q).elim
  · cases fl with
    | ret u =>
      obtain ⟨v, σ', H', J, rv, q⟩ := hs
      exact ⟨v, H', J.os, J.bare, J.base, J.hok, rv, q⟩
    | next =>
      obtain ⟨σ', H', J, q⟩ := hs
      exact ⟨V.non, H', J.os, J.bare, J.base, J.hok, rfl, q⟩
    | brk => obtain ⟨_, _, _, q⟩ := hs; exact False.elim q
    | cont => obtain ⟨_, _, _, q⟩ := hs; exact False.elim q
theorem FnD.core {x qual : Str} {st : Stmt} {f : Addr} {fd : FuncData} {N ps : List Str} {k : Nat} {sp : SpD} (F : Fun K x qual st f fd) (Sc : FnScope N ps (defScope st)) (t : TSD) (len : ∀ ds S Q, sp ds S Q → ds.length = ps.length)
    (hd : ∀ (cdv : Value) (A : Around) (outer : List Env) (s : Shared) (H : Hp), RoomG k (A.deeper (envOfC qual (defScope st) s.heap.objs.size f cdv)) →
      DSs (cxOf CX0 P w K mg base N qual (defScope st) f cdv A outer s H E0).nox (defBody st) t)
    (hq : ∀ ds S Qd, sp ds S Qd → ∀ G H vs, RH K G S H → RDs K G S H ds vs → ∃ ds' S0 Dd, RH K G S0 H ∧ RDs K G S0 H ds' vs ∧ t Dd (pad N.length ds') S0 ∧
      (∀ S' d v H', FL S0 H S' H' → RH K G S' H' → RD K G S' H' d v → Dd.rt d S' → CED K G S H Qd v H') ∧ (∀ S' σd H', FL S0 H S' H' → RH K G S' H' → Dd.nx σd S' → CED K G S H Qd .non H') ∧ (∀ σd S', ¬ Dd.bk σd S') ∧ (∀ σd S', ¬ Dd.ct σd S') ∧ ∀ C σd S', ¬ Dd.xr C σd S') : FnD P w K mg base (k + 1) f fd ps sp :=
  FnD.coreC F Sc t len (fun cdv A outer s H _ => hd cdv A outer s H) hq
theorem FnD.ofC {x qual : Str} {st : Stmt} {f : Addr} {fd : FuncData} {N ps : List Str} {k : Nat} {sp : SpD} (F : Fun K x qual st f fd) (Sc : FnScope N ps (defScope st)) (t : TSD) (len : ∀ ds S Q, sp ds S Q → ds.length = ps.length)
    (hd : ∀ (cdv : Value) (A : Around) (outer : List Env) (s : Shared) (H : Hp), fd.code = cdv → RoomG k (A.deeper (envOfC qual (defScope st) s.heap.objs.size f cdv)) →
      DSs (cxOf CX0 P w K mg base N qual (defScope st) f cdv A outer s H E0).nox (defBody st) t)
    (hq : ∀ ds S Qd, sp ds S Qd → t { nx := fun _ S' => fin Qd .non S', rt := fin Qd } (pad N.length ds) S) : FnD P w K mg base (k + 1) f fd ps sp := by
  refine FnD.coreC F Sc t len hd fun ds S Qd hsp G H vs rh rd => ⟨ds, S, { nx := fun _ S' => fin Qd .non S', rt := fin Qd }, rh, rd, hq ds S Qd hsp, ?_, ?_, fun _ _ h => h, fun _ _ h => h, fun _ _ _ h => h⟩
  · exact fun S' d v H' f' rh' rd' ⟨S2, d2, cv, q⟩ => let ⟨r2, f2, q2⟩ := cv K G H' v rh' rd'; ⟨S2, d2, f'.trans f2, r2, q2, q⟩
  · exact fun S' σd H' f' rh' ⟨S2, d2, cv, q⟩ => let ⟨r2, f2, q2⟩ := cv K G H' .non rh' .non; ⟨S2, d2, f'.trans f2, r2, q2, q⟩
theorem FnD.of {x qual : Str} {st : Stmt} {f : Addr} {fd : FuncData} {N ps : List Str} {k : Nat} {sp : SpD} (F : Fun K x qual st f fd) (Sc : FnScope N ps (defScope st)) (t : TSD) (len : ∀ ds S Q, sp ds S Q → ds.length = ps.length)
    (hd : ∀ (cdv : Value) (A : Around) (outer : List Env) (s : Shared) (H : Hp), RoomG k (A.deeper (envOfC qual (defScope st) s.heap.objs.size f cdv)) →
      DSs (cxOf CX0 P w K mg base N qual (defScope st) f cdv A outer s H E0).nox (defBody st) t)
    (hq : ∀ ds S Qd, sp ds S Qd → t { nx := fun _ S' => fin Qd .non S', rt := fin Qd } (pad N.length ds) S) : FnD P w K mg base (k + 1) f fd ps sp := FnD.ofC F Sc t len (fun cdv A outer s H _ => hd cdv A outer s H) hq
/-- by its name -/
theorem Has.of {x : Str} {st : Stmt} {f : Addr} {fd : FuncData} {ps : List Str} {k : Nat} {sp : SpD} (F : Fun K x x st f fd) (hm : mg x = some (.ref f)) (hb : Binds K fd ps []) (h : FnD P w K mg base k f fd ps sp) : Has P w K mg base k x ps sp :=
  ⟨⟨f, fd, hm, F.kp, hb, h⟩⟩
end

/-! ### comprehensions -/
/-- over the items: what is made so far -/
def lcD (g : TGD) (tt : TTD) (te : TED) (σ : SD) (keep : HD → Prop) (Q : List D → HD → Prop) : List D → List D → HD → Prop
  | [], acc, S => keep S ∧ Q acc S
  | d :: r, acc, S => keep S ∧ g d σ S fun σ2 S2 => tt σ2 S2 fun b S3 => if b = true then te σ2 S3 fun y S4 => lcD g tt te σ keep Q r (acc ++ [y]) S4 else lcD g tt te σ keep Q r acc S3
def tYesD : TTD := fun _ S Q => Q true S
abbrev DTs (X : Cx) (ifs : List Expr) (t : TTD) : Prop := PTs X ifs (upT X.K t)
theorem _root_.L2.PTs.imp {X : Cx} {e : List Expr} {t t' : TT} (h : PTs X e t) (i : ∀ σ H Q, t' σ H Q → t σ H Q) : PTs X e t' := ⟨fun pins s σ H Q I q => h.run pins s σ H Q I (i _ _ _ q)⟩
theorem dts_nil {X : Cx} : DTs X [] tYesD := pts_nil.imp fun σ H Q ⟨G, σd, S, Qd, rs, rh, t, p⟩ => p.here rh t
theorem dts_one {X : Cx} {c : Expr} {t : TTD} (h : DT X c t) : DTs X [c] t := pts_one h
def tLcV (ti : TID) (g : TGD) (tt : TTD) (te : TED) (vs : List Nat) : TED := fun σ S Q => ti σ S fun xs keep S1 => xs.length ≤ sizeLine ∧ lcD g tt te (wipeD σ vs) keep (fun acc S2 => Q (.lst acc) S2) xs [] S1
def tLcR (ti : TID) (g : TGD) (tt : TTD) (te : TED) (vs : List Nat) : TED := fun σ S Q => ti σ S fun xs keep S1 => xs.length ≤ sizeLine ∧ lcD g tt te (wipeD σ vs) keep (fun acc S2 => ∀ p, S2.hp p = none → Q (.ref p) (S2.set p (.lst acc))) xs [] S1
/-- targets that store into the block's own slots alone -/
def upGw (K : PySem.W.Frag) (ws : List Nat) (t : TGD) : TG := fun v σ H Q => ∃ G σd S d Qd, RSl K G S H σd σ ∧ RH K G S H ∧ RD K G S H d v ∧ t d σd S Qd ∧ ∀ S' σd' σ' H', FL S H S' H' → RH K G S' H' → RSl K G S' H' σd' σ' → wipe σ' ws = wipe σ ws → Qd σd' S' → Q σ' H'
def upGsw (K : PySem.W.Frag) (ws : List Nat) (t : TGsD) : TGs := fun vs σ H Q => ∃ G σd S ds Qd, RSl K G S H σd σ ∧ RH K G S H ∧ RDs K G S H ds vs ∧ t ds σd S Qd ∧ ∀ S' σd' σ' H', FL S H S' H' → RH K G S' H' → RSl K G S' H' σd' σ' → wipe σ' ws = wipe σ ws → Qd σd' S' → Q σ' H'
abbrev DGw (X : Cx) (ws : List Nat) (tg : Expr) (t : TGD) : Prop := PG X tg (upGw X.K ws t)
abbrev DGsw (X : Cx) (ws : List Nat) (tg : List Expr) (t : TGsD) : Prop := PGs X tg (upGsw X.K ws t)
theorem wipe_set {i : Nat} {v : Option V} : ∀ {ws : List Nat} {σ : L2.St}, i ∈ ws → wipe (σ.set i v) ws = wipe σ ws
  | [], _, h => by cases h
  | w :: ws, σ, h => by
    unfold wipe
    by_cases hw : i ∈ ws
    · rw [wipe_set hw]
    · obtain rfl : i = w := by
        rcases List.mem_cons.mp h with e | e
        · exact e
        · exact absurd e hw
      have : ∀ (us : List Nat) (τ : L2.St), i ∉ us → wipe (τ.set i v) us = (wipe τ us).set i v := by
        intro us
        induction us with
        | nil => intro τ _; rfl
        | cons u us ih =>
          intro τ hu
          unfold wipe
          rw [ih τ (fun z => hu (List.mem_cons_of_mem _ z)), List.set_comm _ _ (fun z => hu (by rw [z]; exact List.mem_cons_self))]
      rw [this ws σ hw, List.set_set]
theorem dgw_name {X : Cx} (i : Nat) {ws : List Nat} {e : Expr} (hw : i ∈ ws) (h : PG X e (gName i)) : DGw X ws e (gNameD i) :=
  h.imp fun v σ H Q ⟨G, σd, S, d, Qd, rs, rh, q, t, p⟩ => p S _ _ H (.refl _ _) rh (by rw [st_eq]; exact rs.set q i) (wipe_set hw) t
theorem dgsw_nil {X : Cx} {ws : List Nat} : DGsw X ws [] gNilD := pgs_nil.imp fun vs σ H Q ⟨G, σd, S, ds, Qd, rs, rh, q, ⟨e, t⟩, p⟩ => by
  subst e
  cases q
  exact ⟨rfl, p S _ _ H (.refl _ _) rh rs rfl t⟩
theorem dgsw_cons {X : Cx} {ws : List Nat} {e : Expr} {es : List Expr} {t : TGD} {u : TGsD} (h1 : DGw X ws e t) (h2 : DGsw X ws es u)
    (hs : (assignEach (e :: es) X.env).map (·.2) = assign e X.env :: (assignEach es X.env).map (·.2) := by rfl) : DGsw X ws (e :: es) (gConsD t u) :=
  (pgs_cons h1 h2 hs).imp fun vs σ H Q ⟨G, σd, S, ds, Qd, rs, rh, q, tt, p⟩ => by
    cases q with
    | nil => exact tt.elim
    | cons q qs =>
      exact ⟨_, _, rfl, G, σd, S, _, _, rs, rh, q, tt, fun S1 σd1 σ1 H1 f1 rh1 rs1 w1 q1 => ⟨G, σd1, S1, _, Qd, rs1, rh1, qs.fl f1, q1, fun S2 σd2 σ2 H2 f2 rh2 rs2 w2 q2 => p S2 σd2 σ2 H2 (f1.trans f2) rh2 rs2 (w2.trans w1) q2⟩⟩
theorem dgw_tup {X : Cx} {ws : List Nat} {es : List Expr} {k : Nat} {t : TGsD} {n : Nat} {pos : Pos} (hc : X.calm = true) (h : DGsw X ws es t)
    (hn : (assignEach es X.env).length = n := by rfl) (hst : (assignEach es X.env).findIdx? (·.1) = none := by rfl) : DGw X ws (.Tuple es k pos) (gTupD n t) :=
  (pg_tup hc h hn hst).imp fun v σ H Q ⟨G, σd, S, d, Qd, rs, rh, q, tt, p⟩ => by
    cases q with
    | @tup a vs ds h r =>
      obtain ⟨l, tt⟩ := tt
      exact ⟨a, vs, rfl, h.sq, r.length ▸ l, G, σd, S, _, _, rs, rh, r, tt, p⟩
    | _ => exact tt.elim

section
variable {K : PySem.W.Frag} {G : Addr → Prop} {S : HD} {H : Hp}
def Res (G : Addr → Prop) (p : Addr) : Addr → Prop := fun b => G b ∨ b = p
/-- a place that is held back may change: nothing names it -/
theorem res_mv {p : Addr} {o : HO} : Mv (Res G p) S H (Res G p) S (upd H p o) := ⟨fun a u e z => ⟨z, by rw [upd_ne (fun q => z.2.2 (.inr q))]; exact e⟩, fun _ e => e⟩
theorem RH.res (r : RH K G S H) {p : Addr} (h : H p = none) (o : HO) : RH K (Res G p) S (upd H p o) where
  hp := fun a u e => by
    obtain ⟨h1, h2, h3⟩ := (r.grow (Grow.upd h (o := o))).hp a u e
    have ne : a ≠ p := fun z => by rw [z, (r.fresh h).1] at e; cases e
    refine ⟨h1, fun z => z.elim h2 ne, ?_⟩
    obtain ⟨_, _, h3'⟩ := r.hp a u e
    exact h3'.mv (m := ⟨fun b w q z => by
      have nb := ne_of_none q h
      exact ⟨⟨z.1, z.2.1, fun g => g.elim z.2.2 nb⟩, by rw [upd_ne nb]; exact q⟩, fun _ q => q⟩) (upd_ne ne)
  rs := fun a g => by
    rcases g with g | g
    · obtain ⟨⟨u, e⟩, d⟩ := r.rs a g
      exact ⟨⟨u, (Grow.upd h).kp a u e⟩, d⟩
    · subst g
      exact ⟨⟨o, upd_same⟩, (r.fresh h).2.1⟩
  dk := (r.grow (Grow.upd h (o := o))).dk
/-- into the block -/
theorem res_in {p : Addr} {o : HO} (h : H p = none) : Mv G S H (Res G p) S (upd H p o) := ⟨fun b w q z => by
  have nb := ne_of_none q h
  exact ⟨⟨z.1, z.2.1, fun g => g.elim z.2.2 nb⟩, by rw [upd_ne nb]; exact q⟩, fun _ q => q⟩
/-- the held place is written -/
theorem RH.resW (r : RH K (Res G p) S H) (o : HO) : RH K (Res G p) S (upd H p o) where
  hp := fun a u e => by
    obtain ⟨h1, h2, h3⟩ := r.hp a u e
    exact ⟨h1, h2, h3.mv res_mv (upd_ne fun z => h2 (.inr z))⟩
  rs := fun a g => by
    obtain ⟨⟨u, e⟩, d⟩ := r.rs a g
    by_cases ha : a = p
    · subst ha; exact ⟨⟨o, upd_same⟩, d⟩
    · exact ⟨⟨u, by rw [upd_ne ha]; exact e⟩, d⟩
  dk := fun a b e => by
    obtain ⟨h1, h2, h3, cs, n, h4, h5, h6⟩ := r.dk a b e
    have hp := (r.rs p (.inr rfl)).2
    have na : a ≠ p := fun z => hp ⟨_, e, .inl z.symm⟩
    have nb : b ≠ p := fun z => hp ⟨_, e, .inr z.symm⟩
    exact ⟨h1, h2, h3, cs, n, by rw [upd_ne na]; exact h4, by rw [upd_ne nb]; exact h5, h6⟩
/-- out of the block: the place is free to be named -/
theorem res_out {p : Addr} : Mv (Res G p) S H G S H := ⟨fun a o e z => ⟨⟨z.1, z.2.1, fun g => z.2.2 (.inl g)⟩, e⟩, fun _ e => e⟩
theorem RH.resOut (r : RH K (Res G p) S H) : RH K G S H where
  hp := fun a u e => by
    obtain ⟨h1, h2, h3⟩ := r.hp a u e
    exact ⟨h1, fun g => h2 (.inl g), h3.mv res_out rfl⟩
  rs := fun a g => r.rs a (.inl g)
  dk := r.dk
theorem RH.resFree (r : RH K (Res G p) S H) : S.hp p = none ∧ ¬ Dk S p := by
  refine ⟨?_, (r.rs p (.inr rfl)).2⟩
  cases e : S.hp p with
  | none => rfl
  | some o => exact ((r.hp p o e).2.1 (.inr rfl)).elim
end

section
variable {X : Cx} {elt tg iter : Expr} {ifs : List Expr} {scope : Scope} {own : List (Str × Nat)} {pos : Pos} {ti : TID} {g : TGD} {tt : TTD} {te : TED}
theorem FL.updp {S S' : HD} {H H' : Hp} {p : Addr} {o : HO} (f : FL S H S' H') (h : H p = none) : FL S H S' (upd H' p o) :=
  ⟨fun a u e n d => let ⟨n', d', e'⟩ := f.kp a u e n d; ⟨n', d', by rw [upd_ne (ne_of_none e h)]; exact e'⟩, f.dk⟩
/-- the loop of a comprehension, by the reading; Qf: what is wanted of the list at p -/
theorem lc_up {K : PySem.W.Frag} {vs : List Nat} {G : Addr → Prop} {S1 : HD} {H1 : Hp} {σd : SD} {σ : L2.St} {J : It} {xs : List D} {keep : HD → Prop} {Qd : List D → HD → Prop} {Q : VK}
    (rs1 : RSl K G S1 H1 σd σ) (rh1 : RH K G S1 H1) (hJ : ∀ G' S2 H2, Mv G S1 H1 G' S2 H2 → RH K G' S2 H2 → ItOk K G' S2 H2 J xs keep) (hz : xs.length ≤ sizeLine)
    (t : lcD g tt te (wipeD σd vs) keep Qd xs [] S1) {p : Addr} (hp : H1 p = none)
    (fin : ∀ S2 H2 accd acc, FL S1 H1 S2 H2 → RH K (Res G p) S2 H2 → H2 p = some (.lst acc) → RDs K (Res G p) S2 H2 accd acc → Qd accd S2 → Q (.ref p) H2) :
    ∃ W : Nat → Nat → Hp → Prop, (∃ m, W 0 m (upd H1 p (.lst []))) ∧ ∀ i m H, W i m H →
      (J.stop i H ∧ Q (.ref p) H) ∨ (J.go i H ∧ ∃ Nx : Hp → Prop, (∀ H', Nx H' → ∃ m', m' < m ∧ W (i + 1) m' H') ∧ ∀ x H', J.yld i H x H' → upGw K vs g x (wipe σ vs) H' fun σ2 H2 => wipe σ2 vs = wipe σ vs ∧ upT K tt σ2 H2 fun b H3 =>
        if b = true then up K te σ2 H3 fun y H4 => ∃ acc, H4 p = some (.lst acc) ∧ acc.length < sizeLine ∧ Nx (upd H4 p (.lst (acc ++ [y]))) else Nx H3) := by
  have wipe2 : ∀ (us : List Nat) (τ : L2.St), wipe (wipe τ us) us = wipe τ us := by
    intro us τ
    have key : ∀ (ws : List Nat) (τ : L2.St), (∀ u ∈ us, u ∈ ws) → wipe (wipe τ us) ws = wipe τ ws := by
      induction us with
      | nil => intro ws τ _; rfl
      | cons u us ih =>
        intro ws τ h
        show wipe ((wipe τ us).set u none) ws = _
        rw [wipe_set (h u List.mem_cons_self)]
        exact ih ws τ fun v hv => h v (List.mem_cons_of_mem _ hv)
    exact key us τ fun _ h => h
  refine ⟨fun i m H => m = xs.length - i ∧ i ≤ xs.length ∧ ∃ S2 accd acc, FL S1 H1 S2 H ∧ RH K (Res G p) S2 H ∧ H p = some (.lst acc) ∧ RDs K (Res G p) S2 H accd acc ∧ RSl K (Res G p) S2 H (wipeD σd vs) (wipe σ vs) ∧ acc.length ≤ i ∧ lcD g tt te (wipeD σd vs) keep Qd (xs.drop i) accd S2,
    ⟨xs.length, by simp, Nat.zero_le _, S1, [], [], (Grow.upd hp).fl, rh1.res hp _, upd_same, .nil, (rs1.wipe vs).mv (res_in hp), Nat.zero_le _, t⟩, ?_⟩
  rintro i m H ⟨rfl, hi, S2, accd, acc, f2, rh2, hacc, racc, rsl2, hlen, t2⟩
  have ok := hJ (Res G p) S2 H ⟨fun a o e z => let ⟨n1, n2, n3⟩ := f2.kp a o e z.1 z.2.1; ⟨⟨n1, n2, fun g => g.elim z.2.2 (ne_of_none e hp)⟩, n3⟩, f2.dk⟩ rh2
  by_cases hlt : i < xs.length
  · have hx : xs[i]? = some xs[i] := by simp [hlt]
    rw [List.drop_eq_getElem_cons hlt] at t2
    obtain ⟨k2, t2⟩ := t2
    obtain ⟨go, yl⟩ := ok.go i _ S2 H hx (.refl _ _) rh2 k2
    refine .inr ⟨go, fun H' => ∃ S2 accd acc, FL S1 H1 S2 H' ∧ RH K (Res G p) S2 H' ∧ H' p = some (.lst acc) ∧ RDs K (Res G p) S2 H' accd acc ∧ RSl K (Res G p) S2 H' (wipeD σd vs) (wipe σ vs) ∧ acc.length ≤ i + 1 ∧ lcD g tt te (wipeD σd vs) keep Qd (xs.drop (i + 1)) accd S2, fun H' n => ⟨_, by omega, rfl, hlt, n⟩, fun x H3 y => ?_⟩
    obtain ⟨f3, rh3, q3⟩ := yl x H3 y
    have pk : ∀ {S5 : HD} {H5 : Hp}, FL S2 H S5 H5 → H5 p = some (.lst acc) := fun {S5 H5} f => (f.kp p _ hacc (RH.resFree rh2).1 (RH.resFree rh2).2).2.2
    refine ⟨Res G p, _, S2, _, _, rsl2.fl f3, rh3, q3, t2, fun S4 σd4 σ4 H4 f4 rh4 rs4 w4 t4 => ⟨?_, ?_⟩⟩
    · rw [wipe2] at w4; exact w4
    refine ⟨Res G p, σd4, S4, _, rs4, rh4, t4, fun S5 b H5 f5 rh5 t5 => ?_⟩
    have f25 := f3.trans (f4.trans f5)
    have f15 := f2.trans f25
    cases b with
    | false =>
      refine iteF ?_
      rw [if_neg Bool.false_ne_true] at t5
      exact ⟨S5, accd, acc, f15, rh5, pk f25, racc.fl f25, rsl2.fl f25, Nat.le_succ_of_le hlen, t5⟩
    | true =>
      refine iteT ?_
      rw [if_pos rfl] at t5
      refine ⟨Res G p, σd4, S5, _, rs4.fl f5, rh5, t5, fun S6 d v H6 f6 rh6 q6 t6 => ?_⟩
      have f26 := f25.trans f6
      refine ⟨acc, pk f26, by omega, S6, accd ++ [d], acc ++ [v], (f2.trans f26).updp hp, rh6.resW _, upd_same, ((racc.fl f26).append (.cons q6 .nil)).mv res_mv, (rsl2.fl f26).mv res_mv, by simp; omega, t6⟩
  · have e : i = xs.length := by omega
    subst e
    rw [List.drop_length] at t2
    exact .inl ⟨ok.stop S2 H (.refl _ _) rh2 t2.1, fin S2 H accd acc f2 rh2 hacc racc t2.2⟩
theorem de_lcV (hN : X.N.Nodup) (hi : DI X tg iter ti) (ok : BlkOk X.N X.env.scope scope own)
    (hg : ∀ (s : Shared) (H : Hp) (C : Addr) (cl : List (Str × Addr)) (fp : List Addr), DGw (X.blk s H scope (compEnvC scope cl C X.env) fp) (own.map (·.2)) tg g) (ht : ∀ (s : Shared) (H : Hp) (C : Addr) (cl : List (Str × Addr)) (fp : List Addr), DTs (X.blk s H scope (compEnvC scope cl C X.env) fp) ifs tt)
    (he : ∀ (s : Shared) (H : Hp) (C : Addr) (cl : List (Str × Addr)) (fp : List Addr), DE (X.blk s H scope (compEnvC scope cl C X.env) fp) elt te) (hc : X.calm = true := by rfl) (hs : ∀ x, foldedSetIterable iter X.env x = pure x := by intro _; rfl) :
    DE X (.ListComp elt [⟨tg, iter, ifs, 0⟩] scope pos) (tLcV ti g tt te (own.map (·.2))) :=
  (pe_lc hc hN hi ok hg ht he hs).imp fun σ H Q ⟨G, σd, S, Qd, rs, rh, t, p⟩ =>
    ⟨G, σd, S, _, rs, rh, t, fun S1 J xs keep H1 f1 rh1 hJ ⟨hz, t1⟩ q hq => lc_up (rs.fl f1) rh1 hJ hz t1 hq fun S2 H2 accd acc f2 rh2 hacc racc qd =>
      p S2 _ _ H2 (f1.trans f2) rh2.resOut (.lst (.inl ⟨⟨(RH.resFree rh2).1, (RH.resFree rh2).2, fun g => by
        obtain ⟨⟨o, e⟩, _⟩ := rh1.rs q g
        rw [hq] at e; cases e⟩, .inl hacc⟩) (racc.mv res_out)) qd⟩
theorem up_lcR {K : PySem.W.Frag} {vs : List Nat} {Q : VK} {Qd : QD} {G : Addr → Prop} {S : HD} {H : Hp} (rh : RH K G S H) (p : Post K G S H Qd Q) {S1 : HD} {H1 : Hp} (f1 : FL S H S1 H1) (rh1 : RH K G S1 H1) {q : Addr} (hq : H1 q = none)
    {S2 : HD} {H2 : Hp} {accd : List D} {acc : List V} (f2 : FL S1 H1 S2 H2) (rh2 : RH K (Res G q) S2 H2) (hacc : H2 q = some (.lst acc)) (racc : RDs K (Res G q) S2 H2 accd acc) (qd : ∀ p, S2.hp p = none → Qd (.ref p) (S2.set p (.lst accd))) : Q (.ref q) H2 := by
  have n2 := (RH.resFree rh2).1
  have d2 := (RH.resFree rh2).2
  have mv : Mv (Res G q) S2 H2 G (S2.set q (.lst accd)) H2 := ⟨fun a o e z => by
    have ne : a ≠ q := fun w => z.2.2 (.inr w)
    exact ⟨⟨by rw [HD.set_ne ne]; exact z.1, z.2.1, fun g => z.2.2 (.inl g)⟩, e⟩, fun _ e => e⟩
  have ngq : ¬ G q := fun g => by
    obtain ⟨⟨o, e⟩, _⟩ := rh1.rs q g
    rw [hq] at e; cases e
  have rh3 : RH K G (S2.set q (.lst accd)) H2 := by
    refine ⟨fun a u e => ?_, fun a g => rh2.rs a (.inl g), fun a b e => ?_⟩
    · by_cases ha : a = q
      · subst ha
        rw [HD.set_same] at e; cases e
        exact ⟨d2, ngq, acc, hacc, racc.mv mv⟩
      · rw [HD.set_ne ha] at e
        obtain ⟨h1, h2, h3⟩ := rh2.hp a u e
        exact ⟨h1, fun g => h2 (.inl g), h3.mv mv rfl⟩
    · obtain ⟨h1, h2, h3, h4⟩ := rh2.dk a b e
      have na : a ≠ q := fun z => d2 ⟨_, e, .inl z.symm⟩
      have nb : b ≠ q := fun z => d2 ⟨_, e, .inr z.symm⟩
      exact ⟨h1, by rw [HD.set_ne na]; exact h2, by rw [HD.set_ne nb]; exact h3, h4⟩
  have f3 : FL S1 H1 (S2.set q (.lst accd)) H2 := ⟨fun a o e n d => by
    obtain ⟨n', d', e'⟩ := f2.kp a o e n d
    exact ⟨by rw [HD.set_ne (ne_of_none e hq)]; exact n', d', e'⟩, f2.dk⟩
  exact p _ _ _ H2 (f1.trans f3) rh3 (.ref q) (qd q n2)
theorem de_lcR (hN : X.N.Nodup) (hi : DI X tg iter ti) (ok : BlkOk X.N X.env.scope scope own)
    (hg : ∀ (s : Shared) (H : Hp) (C : Addr) (cl : List (Str × Addr)) (fp : List Addr), DGw (X.blk s H scope (compEnvC scope cl C X.env) fp) (own.map (·.2)) tg g) (ht : ∀ (s : Shared) (H : Hp) (C : Addr) (cl : List (Str × Addr)) (fp : List Addr), DTs (X.blk s H scope (compEnvC scope cl C X.env) fp) ifs tt)
    (he : ∀ (s : Shared) (H : Hp) (C : Addr) (cl : List (Str × Addr)) (fp : List Addr), DE (X.blk s H scope (compEnvC scope cl C X.env) fp) elt te) (hc : X.calm = true := by rfl) (hs : ∀ x, foldedSetIterable iter X.env x = pure x := by intro _; rfl) :
    DE X (.ListComp elt [⟨tg, iter, ifs, 0⟩] scope pos) (tLcR ti g tt te (own.map (·.2))) :=
  (pe_lc hc hN hi ok hg ht he hs).imp fun σ H Q ⟨G, σd, S, Qd, rs, rh, t, p⟩ =>
    ⟨G, σd, S, _, rs, rh, t, fun S1 J xs keep H1 f1 rh1 hJ ⟨hz, t1⟩ q hq => lc_up (rs.fl f1) rh1 hJ hz t1 hq fun S2 H2 accd acc f2 rh2 hacc racc qd => up_lcR rh p f1 rh1 hq f2 rh2 hacc racc qd (vs := [])⟩
/-- name = [..] -/
theorem ds_setLcV (i : Nat) {y : Str} {py spos : Pos} (hN : X.N.Nodup) (hi : DI X tg iter ti) (ok : BlkOk X.N X.env.scope scope own)
    (hg : ∀ (s : Shared) (H : Hp) (C : Addr) (cl : List (Str × Addr)) (fp : List Addr), DGw (X.blk s H scope (compEnvC scope cl C X.env) fp) (own.map (·.2)) tg g) (ht : ∀ (s : Shared) (H : Hp) (C : Addr) (cl : List (Str × Addr)) (fp : List Addr), DTs (X.blk s H scope (compEnvC scope cl C X.env) fp) ifs tt)
    (he : ∀ (s : Shared) (H : Hp) (C : Addr) (cl : List (Str × Addr)) (fp : List Addr), DE (X.blk s H scope (compEnvC scope cl C X.env) fp) elt te) (hy : X.N[i]? = some y := by rfl) (hyl : X.env.scope.names.lookup y = some .local := by rfl)
    (hsw : swapsWith (.ListComp elt [⟨tg, iter, ifs, 0⟩] scope pos) (some (.Name y py)) spos.line X.env = pure true := by exact sw_true rfl rfl rfl (by decide +kernel)) (hc : X.calm = true := by rfl) (hs : ∀ x, foldedSetIterable iter X.env x = pure x := by intro _; rfl) :
    DS X (.Assign [.Name y py] (.ListComp elt [⟨tg, iter, ifs, 0⟩] scope pos) spos) (sAsgD (tLcV ti g tt te (own.map (·.2))) (gNameD i)) :=
  (ps_setLc hc hN hy hyl hsw hi ok hg ht he hs).imp fun E σ H ⟨G, σd, S, Dd, rs, rh, t, p⟩ =>
    ⟨G, σd, S, _, rs, rh, t, fun S1 J xs keep H1 f1 rh1 hJ ⟨hz, t1⟩ q hq => lc_up (Q := fun x H2 => gName i x σ H2 E.nx) (rs.fl f1) rh1 hJ hz t1 hq fun S2 H2 accd acc f2 rh2 hacc racc qd =>
      p.nx S2 _ _ H2 (f1.trans f2) rh2.resOut ((rs.fl (f1.trans f2)).set (d := .lst accd) (.lst (.inl ⟨⟨(RH.resFree rh2).1, (RH.resFree rh2).2, fun g => by
        obtain ⟨⟨o, e⟩, _⟩ := rh1.rs q g
        rw [hq] at e; cases e⟩, .inl hacc⟩) (racc.mv res_out)) i) (st_eq σd i _ ▸ qd)⟩
theorem ds_setLcR (i : Nat) {y : Str} {py spos : Pos} (hN : X.N.Nodup) (hi : DI X tg iter ti) (ok : BlkOk X.N X.env.scope scope own)
    (hg : ∀ (s : Shared) (H : Hp) (C : Addr) (cl : List (Str × Addr)) (fp : List Addr), DGw (X.blk s H scope (compEnvC scope cl C X.env) fp) (own.map (·.2)) tg g) (ht : ∀ (s : Shared) (H : Hp) (C : Addr) (cl : List (Str × Addr)) (fp : List Addr), DTs (X.blk s H scope (compEnvC scope cl C X.env) fp) ifs tt)
    (he : ∀ (s : Shared) (H : Hp) (C : Addr) (cl : List (Str × Addr)) (fp : List Addr), DE (X.blk s H scope (compEnvC scope cl C X.env) fp) elt te) (hy : X.N[i]? = some y := by rfl) (hyl : X.env.scope.names.lookup y = some .local := by rfl)
    (hsw : swapsWith (.ListComp elt [⟨tg, iter, ifs, 0⟩] scope pos) (some (.Name y py)) spos.line X.env = pure true := by exact sw_true rfl rfl rfl (by decide +kernel)) (hc : X.calm = true := by rfl) (hs : ∀ x, foldedSetIterable iter X.env x = pure x := by intro _; rfl) :
    DS X (.Assign [.Name y py] (.ListComp elt [⟨tg, iter, ifs, 0⟩] scope pos) spos) (sAsgD (tLcR ti g tt te (own.map (·.2))) (gNameD i)) :=
  (ps_setLc hc hN hy hyl hsw hi ok hg ht he hs).imp fun E σ H ⟨G, σd, S, Dd, rs, rh, t, p⟩ =>
    ⟨G, σd, S, _, rs, rh, t, fun S1 J xs keep H1 f1 rh1 hJ ⟨hz, t1⟩ q hq => lc_up (Q := fun x H2 => gName i x σ H2 E.nx) (rs.fl f1) rh1 hJ hz t1 hq fun S2 H2 accd acc f2 rh2 hacc racc qd =>
      up_lcR (Qd := fun d S2 => gNameD i d σd S2 Dd.nx) (Q := fun x H2 => gName i x σ H2 E.nx) (vs := []) rh (fun S3 d v H3 f3 rh3 q3 t3 => p.nx S3 _ _ H3 f3 rh3 ((rs.fl f3).set q3 i) (st_eq σd i d ▸ t3)) f1 rh1 hq f2 rh2 hacc racc qd⟩
end
end PD
end

section
/-! PD5: operators, items, slices, built-in calls over deep values; what a loop walks. -/
namespace PD
open PySem PySem.Spec PyProof.Rows L2

/-! ### sizes that every heap keeps -/
def Szs (K : PySem.W.Frag) (H : Hp) : Prop := (∀ a xs, SqL K H a xs → xs.length ≤ sizeLine) ∧ ∀ a xs, SqT K H a xs → xs.length ≤ sizeLine
theorem szs_of {X : Cx} {pins : List (Addr × Obj)} {σ : L2.St} {H : Hp} {s : Shared} (I : Inv X pins σ H s) : Szs X.K H :=
  ⟨fun a xs h => (I.list h).choose_spec.2.2, fun a xs h => (I.tuple h).choose_spec.2.2⟩
theorem _root_.L2.PE.szs {X : Cx} {e : Expr} {t : TE} (h : PE X e t) : PE X e (fun σ H Q => t σ H fun v H1 => Szs X.K H1 → Q v H1) :=
  ⟨fun pins s σ H Q I q => thn (h.run pins s σ H _ I q) fun u s1 ⟨v, H1, I1, r, q1⟩ => ⟨v, H1, I1, r, q1 (szs_of I1)⟩⟩

/-! ### a sequence, by its items -/
def asSeq (S : HD) : D → Option (List D)
  | .tup xs => some xs
  | .lst xs => some xs
  | .ref a => match S.hp a with
    | some (.lst xs) => some xs
    | _ => none
  | _ => none
def asLst (S : HD) : D → Option (List D)
  | .lst xs => some xs
  | .ref a => match S.hp a with
    | some (.lst xs) => some xs
    | _ => none
  | _ => none
section
variable {K : PySem.W.Frag} {G : Addr → Prop} {S : HD} {H : Hp}
theorem asLst_ok (rh : RH K G S H) {d : D} {v : V} {xs : List D} (h : asLst S d = some xs) (q : RD K G S H d v) : ∃ p vs, v = .ref p ∧ SqL K H p vs ∧ RDs K G S H xs vs := by
  cases q with
  | lst h1 r => cases h; exact ⟨_, _, rfl, h1.sq, r⟩
  | ref a =>
    simp only [asLst] at h
    split at h
    · rename_i ys e
      cases h
      obtain ⟨_, _, vs, e1, r⟩ := rh.hp a _ e
      exact ⟨a, vs, rfl, SqL.of e1, r⟩
    · cases h
  | _ => cases h
theorem asSeq_ok (rh : RH K G S H) {d : D} {v : V} {xs : List D} (h : asSeq S d = some xs) (q : RD K G S H d v) : ∃ p vs, v = .ref p ∧ (SqL K H p vs ∨ SqT K H p vs) ∧ RDs K G S H xs vs := by
  cases d with
  | tup ys =>
    cases h
    cases q with
    | tup h1 r => exact ⟨_, _, rfl, .inr h1.sq, r⟩
  | lst ys => obtain ⟨p, vs, e, h1, r⟩ := asLst_ok (xs := xs) rh (show asLst S (.lst ys) = some xs from h) q; exact ⟨p, vs, e, .inl h1, r⟩
  | ref a => obtain ⟨p, vs, e, h1, r⟩ := asLst_ok (xs := xs) rh (show asLst S (.ref a) = some xs from h) q; exact ⟨p, vs, e, .inl h1, r⟩
  | _ => cases h
end

/-! ### + - * // % ** -/
/-- list + list for any two lists that are read -/
def rCatK (K : PySem.W.Frag) : R2 := fun x y H Q => ∃ a b xs ys, x = .ref a ∧ y = .ref b ∧ SqL K H a xs ∧ SqL K H b ys ∧ xs.length + ys.length ≤ sizeLine ∧ ∀ p, H p = none → Q (.ref p) (upd H p (.lst (xs ++ ys)))
theorem op_catK {X : Cx} : OpR X (binaryOp .Add) (rCatK X.K) := by
  intro pins s σ H x y v u Q I rx ry h
  obtain ⟨a, b, xs, ys, rfl, rfl, ha, hb, hz, q⟩ := h
  cases rx
  cases ry
  obtain ⟨its, r1, p1, z1⟩ := I.list ha
  obtain ⟨its2, r2, p2, z2⟩ := I.list hb
  have l1 := r1.length
  have l2 := r2.length
  obtain ⟨⟨c1, dd1, dt1, sl1⟩, n1, e1, hc1, hd1, hdt1⟩ := p1
  obtain ⟨⟨c2, dd2, dt2, sl2⟩, n2, e2, hc2, hd2, hdt2⟩ := p2
  simp only at hc1 hd1 hdt1 hc2 hd2 hdt2
  subst hc1 hd1 hdt1 hc2 hd2 hdt2
  refine concat_meets ⟨_, e1, rfl⟩ ⟨_, e2, rfl⟩ noFill_list_add seq_list_add PySem.F.slot_list_add PySem.F.entry_list_add (PySem.F.args_list_add_2 _ _)
    (list_addW a b its.toArray its2.toArray n1 n2 none none sl1 sl2 (by simp only [List.size_toArray]; omega)) ⟨e1, e2, ?_⟩
  have ea : its.toArray ++ its2.toArray = (its ++ its2).toArray := by simp
  rw [ea]
  exact ⟨.ref _, _, I.lnew (t' := s.toks) (r1.append r2) (by rw [List.length_append]; exact hz), rfl, q _ I.fresh⟩
/-- ints, texts, tuples, lists -/
def rAddV (K : PySem.W.Frag) : R2 := fun x y H Q => (rI0 (fun i j => .int (i + j)) x y H Q) ∨ (∃ i j, x = .str i ∧ y = .str j ∧ i.length + j.length ≤ sizeLine ∧ Q (.str (i ++ j)) H) ∨ rCatA K x y H Q ∨ rCatK K x y H Q
theorem op_addV {X : Cx} : OpR X (binaryOp .Add) (rAddV X.K) := op_add.or (op_add_str.or (op_catA.or op_catK))
theorem op2_lst {K : PySem.W.Frag} {G : Addr → Prop} {S : HD} {H : Hp} {d1 d2 : D} {v1 v2 : V} {Qd : QD} {Q : VK} {xs ys : List D} (rh : RH K G S H) (q1 : RD K G S H d1 v1) (q2 : RD K G S H d2 v2) (p : Post K G S H Qd Q)
    (h1 : asLst S d1 = some xs) (h2 : asLst S d2 = some ys) (t : xs.length + ys.length ≤ sizeLine ∧ Qd (.lst (xs ++ ys)) S) : rAddV K v1 v2 H Q := by
  obtain ⟨a, vs, rfl, l1, r1⟩ := asLst_ok rh h1 q1
  obtain ⟨b, ws, rfl, l2, r2⟩ := asLst_ok rh h2 q2
  exact .inr (.inr (.inr ⟨a, b, vs, ws, rfl, rfl, l1, l2, by rw [← r1.length, ← r2.length]; exact t.1, fun q hq => p.newL rh (r1.append r2) t.2 hq⟩))
def rAddD : R2D := fun x y S Q => match x, y with
  | .int i, .int j => Q (.int (i + j)) S
  | .str a, .str b => a.length + b.length ≤ sizeLine ∧ Q (.str (a ++ b)) S
  | .tup a, .tup b => a.length + b.length ≤ sizeLine ∧ Q (.tup (a ++ b)) S
  | x, y => match asLst S x, asLst S y with
    | some xs, some ys => xs.length + ys.length ≤ sizeLine ∧ Q (.lst (xs ++ ys)) S
    | _, _ => False
theorem add2 {K : PySem.W.Frag} : Op2 K (rAddV K) rAddD := by
  intro G S H d1 d2 v1 v2 Qd Q rh q1 q2 t p
  unfold rAddD at t
  split at t
  · cases q1; cases q2; exact .inl ⟨_, _, rfl, rfl, p.here rh (.int _) t⟩
  · cases q1; cases q2; exact .inr (.inl ⟨_, _, rfl, rfl, t.1, p.here rh (.str _) t.2⟩)
  · rename_i a b
    cases q1 with
    | @tup a1 vs _ h1 r1 =>
      cases q2 with
      | @tup a2 ws _ h2 r2 =>
        refine .inr (.inr (.inl ⟨a1, a2, vs, ws, rfl, rfl, h1.sq, h2.sq, by rw [← r1.length, ← r2.length]; exact t.1, fun e => ?_, fun e1 e2 => ?_, fun e1 e2 q hq => p.newT rh (r1.append r2) t.2 hq⟩))
        · subst e
          cases r1
          exact p.here rh (.tup h2 r2) t.2
        · subst e2
          cases r2
          exact p.here rh (.tup h1 r1) (by simpa using t.2)
  · split at t
    · rename_i xs ys e1 e2
      exact op2_lst rh q1 q2 p e1 e2 t
    · exact t.elim
section
variable {X : Cx} {a b : Expr} {ta tb : TED} {pos : Pos}
theorem de_add (ha : DE X a ta) (hb : DE X b tb) : DE X (.BinOp a .Add b pos) (tBin rAddD ta tb) := de_op op_addV add2 ha hb
def rSubD : R2D := fun x y S Q => match x, y with
  | .int i, .int j => Q (.int (i - j)) S
  | _, _ => False
theorem de_sub (ha : DE X a ta) (hb : DE X b tb) : DE X (.BinOp a .Sub b pos) (tBin rSubD ta tb) := de_op op_sub (fun G S H d1 d2 v1 v2 Qd Q rh q1 q2 t p => by
  unfold rSubD at t
  split at t
  · cases q1; cases q2; exact ⟨_, _, rfl, rfl, p.here rh (.int _) t⟩
  · exact t.elim) ha hb
/-- // by a positive number below 2^30, or any great ones that fit -/
def rFdivD : R2D := fun x y S Q => match x, y with
  | .int i, .int j => (0 < j ∧ j < 1073741824) ∧ Q (.int (i / j)) S
  | _, _ => False
theorem de_fdiv (ha : DE X a ta) (hb : DE X b tb) : DE X (.BinOp a .FloorDiv b pos) (tBin rFdivD ta tb) := de_op op_fdiv (fun G S H d1 d2 v1 v2 Qd Q rh q1 q2 t p => by
  unfold rFdivD at t
  split at t
  · cases q1; cases q2; exact ⟨_, _, rfl, rfl, t.1, p.here rh (.int _) t.2⟩
  · exact t.elim) ha hb
def rModD : R2D := fun x y S Q => match x, y with
  | .int i, .int j => 0 < j ∧ Q (.int (i % j)) S
  | _, _ => False
theorem de_mod (ha : DE X a ta) (hb : DE X b tb) : DE X (.BinOp a .Mod b pos) (tBin rModD ta tb) := de_op op_mod (fun G S H d1 d2 v1 v2 Qd Q rh q1 q2 t p => by
  unfold rModD at t
  split at t
  · cases q1; cases q2; exact ⟨_, _, rfl, rfl, t.1, p.here rh (.int _) t.2⟩
  · exact t.elim) ha hb
def rPowD : R2D := fun x y S Q => match x, y with
  | .int i, .int j => (0 ≤ j ∧ j ≤ 1000000 ∧ i.natAbs < 2 ^ 64) ∧ Q (.int (i ^ j.toNat)) S
  | _, _ => False
theorem de_pow (ha : DE X a ta) (hb : DE X b tb) : DE X (.BinOp a .Pow b pos) (tBin rPowD ta tb) := de_op op_pow (fun G S H d1 d2 v1 v2 Qd Q rh q1 q2 t p => by
  unfold rPowD at t
  split at t
  · cases q1; cases q2; exact ⟨_, _, rfl, rfl, t.1, p.here rh (.int _) t.2⟩
  · exact t.elim) ha hb

/-! ### list * int, tuple * int, text * int -/
def rRepK (K : PySem.W.Frag) : R2 := fun x y H Q => ∃ l k xs, x = .ref l ∧ y = .int k ∧ SqL K H l xs ∧ 0 ≤ k ∧ k < 2 ^ 60 ∧ xs.length * k.toNat ≤ sizeLine ∧ ∀ p, H p = none → Q (.ref p) (upd H p (.lst (List.replicate k.toNat xs).flatten))
theorem op_repK : OpR X (binaryOp .Mult) (rRepK X.K) := by
  intro pins s σ H x y v u Q I rx ry h
  obtain ⟨l, k, xs, rfl, rfl, hl, h1, h2, hz, q⟩ := h
  cases rx
  obtain ⟨t, rfl⟩ := ry
  obtain ⟨its, r, pl, z⟩ := I.list hl
  have hn := r.length
  obtain ⟨⟨c1, dd1, dt1, sl1⟩, n1, e1, hc1, hd1, hdt1⟩ := pl
  simp only at hc1 hd1 hdt1
  subst hc1 hd1 hdt1
  have hz' : its.toArray.size * k.toNat ≤ 2 ^ 24 := by rw [List.size_toArray, ← hn]; exact hz
  refine wpAny_binaryOp_repeat_ref (T := "list") (U := "int") (by decide) ⟨_, e1, rfl⟩ (fun s' => typeIs_int s' k t) noFill_list_mul F.fills_int_mul F.slot_int_rmul repeat_list F.slot_int_index.lookup
    (call_meets F.slot_int_rmul (typeIs_int s k t) F.entry_int_rmul (F.args_int_rmul_2 _ _) (lm_int_rmul_list_any k t l its.toArray n1 none sl1)
      ⟨e1, rfl, ⟨_, e1, rfl⟩, call_meets F.slot_list_mul ⟨_, e1, rfl⟩ F.entry_list_mul (F.args_list_mul_2 _ _)
        (lm_list_mul_any l its.toArray n1 none sl1 k t (by simp [Builtin.List.listFitsIndex]; omega) (by omega) (by simp [Builtin.List.listTooLong, sizeLine]; omega)) ⟨e1, ?_⟩⟩)
  rw [listMul_foldl_if]
  exact ⟨.ref _, _, I.lnew (t' := s.toks) (r.rep k.toNat) (by rw [List.length_flatten]; simpa [Nat.mul_comm] using hz), rfl, q _ I.fresh⟩
end
end PD
end

section
/-! PD5b: tuple * int of any count, text * int; the union of *. -/
namespace PD
open PySem PySem.Spec PyProof.Rows L2

theorem tuple_mul_same (l : Addr) (items : Array Value) (n : Nat) (dd : Option Addr) (sl : Array (Option Value)) (x : Int) (u : Tok) (c0 : (decide (x < -(2 ^ 63)) || decide (x ≥ 2 ^ 63)) = false) (c1 : (items.isEmpty || x == 1) = true) :
    Meets (Builtin.«tuple.__mul__» ⟨[.ref l, .int x u], []⟩) (fun _ R s => s.heap.get? l = some { cls := .type "tuple", dict := dd, data := .seq items n, slots := sl } ∧ R (.ok (.ret (Value.ref l))) s) :=
  .of_wp fun prog w A R s h => by
    obtain ⟨hp, g, d, tk, os⟩ := s
    obtain ⟨hl, h⟩ := h
    have f1 := AutoSeq1.idx_int
    wp_walk using wpAny_loadPart' hl
    repeat (first
      | (refine wpAny_ite_false (decide_eq_false (by rw [c0]; exact Bool.false_ne_true)) ?_; wp_walk using wpAny_loadPart' hl)
      | (refine wpAny_ite_true (decide_eq_true c1) ?_; wp_walk using wpAny_loadPart' hl))
    all_goals first | exact ⟨_, rfl, h⟩ | skip
theorem tuple_mul_zero (l : Addr) (items : Array Value) (n : Nat) (dd : Option Addr) (sl : Array (Option Value)) (x : Int) (u : Tok) (c0 : (decide (x < -(2 ^ 63)) || decide (x ≥ 2 ^ 63)) = false) (c1 : (items.isEmpty || x == 1) = false) (c2 : (decide (x ≤ 0) || items.isEmpty) = true) :
    Meets (Builtin.«tuple.__mul__» ⟨[.ref l, .int x u], []⟩) (fun _ R s => s.heap.get? l = some { cls := .type "tuple", dict := dd, data := .seq items n, slots := sl } ∧
      R (.ok (.ret (Value.ref s.heap.objs.size))) { s with heap := s.heap.push { cls := Value.type "tuple", data := Data.seq #[] }, toks := s.toks }) :=
  .of_wp fun prog w A R s h => by
    obtain ⟨hp, g, d, tk, os⟩ := s
    obtain ⟨hl, h⟩ := h
    have f1 := AutoSeq1.idx_int
    wp_walk using wpAny_loadPart' hl
    repeat (first
      | (refine wpAny_ite_false (decide_eq_false (by rw [c0]; exact Bool.false_ne_true)) ?_; wp_walk using wpAny_loadPart' hl)
      | (refine wpAny_ite_false (decide_eq_false (by rw [c1]; exact Bool.false_ne_true)) ?_; wp_walk using wpAny_loadPart' hl)
      | (refine wpAny_ite_true (decide_eq_true c2) ?_; wp_walk using wpAny_loadPart' hl))
    all_goals first | exact ⟨_, rfl, h⟩ | skip

/-- tuple * int, any count to 1000 -/
def rRepA (K : PySem.W.Frag) : R2 := fun x y H Q => ∃ l k xs, x = .ref l ∧ y = .int k ∧ SqT K H l xs ∧ -1000 ≤ k ∧ k ≤ 1000 ∧ xs.length ≤ 1000 ∧
  ((xs = [] ∨ k = 1) → Q (.ref l) H) ∧ (¬ (xs = [] ∨ k = 1) → ∀ p, H p = none → Q (.ref p) (upd H p (.tup (List.replicate k.toNat xs).flatten)))
theorem op_repA {X : Cx} : OpR X (binaryOp .Mult) (rRepA X.K) := by
  intro pins s σ H x y v u Q I rx ry h
  obtain ⟨l, k, xs, rfl, rfl, hT, h1, h2, hz, qs, qn⟩ := h
  by_cases hw : xs = [] ∨ k = 1
  · cases rx
    obtain ⟨t, rfl⟩ := ry
    obtain ⟨its, r, ⟨⟨cls, dd, data, sl⟩, ho, hc, n, hd⟩, hs⟩ := I.tuple hT
    simp only at hc hd
    subst hc hd
    have c0 : (decide (k < -(2 ^ 63)) || decide (k ≥ 2 ^ 63)) = false := by
      rw [decide_eq_false (by omega), decide_eq_false (by omega)] <;> rfl
    have c1 : (its.toArray.isEmpty || k == 1) = true := by
      rcases hw with e | e
      · subst e; cases r; rfl
      · subst e; simp
    exact wpAny_binaryOp_repeat_ref (T := "tuple") (U := "int") (by decide) ⟨_, ho, rfl⟩ (fun s' => typeIs_int s' k t) noFill_tuple_mul F.fills_int_mul F.slot_int_rmul repeat_tuple F.slot_int_index.lookup
      (call_meets F.slot_int_rmul (typeIs_int s k t) F.entry_int_rmul (F.args_int_rmul_2 _ _) (int_rmul_tuple k t l its.toArray n dd sl)
        ⟨ho, rfl, ⟨_, ho, rfl⟩, call_meets F.slot_tuple_mul ⟨_, ho, rfl⟩ F.entry_tuple_mul (F.args_tuple_mul_2 _ _) (tuple_mul_same l its.toArray n dd sl k t c0 c1) ⟨ho, .ref l, H, I, rfl, qs hw⟩⟩)
  · by_cases h0 : k ≤ 0
    · cases rx
      obtain ⟨t, rfl⟩ := ry
      obtain ⟨its, r, ⟨⟨cls, dd, data, sl⟩, ho, hc, n, hd⟩, hs⟩ := I.tuple hT
      simp only at hc hd
      subst hc hd
      have c0 : (decide (k < -(2 ^ 63)) || decide (k ≥ 2 ^ 63)) = false := by
        rw [decide_eq_false (by omega), decide_eq_false (by omega)] <;> rfl
      have c1 : (its.toArray.isEmpty || k == 1) = false := by
        have e2 : (k == 1) = false := beq_eq_false_iff_ne.mpr (by omega)
        rw [e2]
        cases r with
        | nil => exact absurd (.inl rfl) hw
        | cons _ _ => rfl
      have c2 : (decide (k ≤ 0) || its.toArray.isEmpty) = true := by rw [decide_eq_true h0]; rfl
      have hq := qn hw _ (I.hok.fresh (Nat.le_refl _))
      have e0 : k.toNat = 0 := by omega
      rw [e0] at hq
      refine wpAny_binaryOp_repeat_ref (T := "tuple") (U := "int") (by decide) ⟨_, ho, rfl⟩ (fun s' => typeIs_int s' k t) noFill_tuple_mul F.fills_int_mul F.slot_int_rmul repeat_tuple F.slot_int_index.lookup
        (call_meets F.slot_int_rmul (typeIs_int s k t) F.entry_int_rmul (F.args_int_rmul_2 _ _) (int_rmul_tuple k t l its.toArray n dd sl)
          ⟨ho, rfl, ⟨_, ho, rfl⟩, call_meets F.slot_tuple_mul ⟨_, ho, rfl⟩ F.entry_tuple_mul (F.args_tuple_mul_2 _ _) (tuple_mul_zero l its.toArray n dd sl k t c0 c1 c2) ⟨ho, ?_⟩⟩)
      exact ⟨.ref s.heap.objs.size, _, I.laid (t' := s.toks) (o := .tup []) (fun b ob q => Heap.get?_push_of_some _ q) (Nat.le_refl _) ⟨Nat.zero_le _, [], .nil, IsTup.new _ _⟩, rfl, hq⟩
    · exact op_repT pins s σ H _ _ v u Q I rx ry ⟨l, k, xs, rfl, rfl, hT, fun e => hw (.inl e), by omega, h2, hz, qn hw⟩
/-- text * int -/
def strRep (x : Str) (n : Nat) : Str := ⟨(List.replicate n x.cps).foldl (· ++ ·) #[]⟩
theorem strRep_len (x : Str) (n : Nat) : (strRep x n).length = x.length * n := by
  have key : ∀ (m : Nat) (acc : Array Nat), ((List.replicate m x.cps).foldl (· ++ ·) acc).size = acc.size + x.cps.size * m := by
    intro m
    induction m with
    | zero => intro acc; simp
    | succ m ih =>
      intro acc
      rw [List.replicate_succ, List.foldl_cons, ih, Array.size_append, Nat.mul_succ]
      omega
  have := key n #[]
  simp only [List.size_toArray, List.length_nil, Nat.zero_add] at this
  exact this
theorem op_repS {X : Cx} : OpR X (binaryOp .Mult) (fun x y H Q => ∃ z k, x = .str z ∧ y = .int k ∧ 0 ≤ k ∧ k ≤ 1000000 ∧ z.length * k.toNat ≤ sizeLine ∧ Q (.str (strRep z k.toNat)) H) := by
  intro pins s σ H x y v u Q I rx ry h
  obtain ⟨z, k, rfl, rfl, h1, h2, hz, q⟩ := h
  obtain ⟨t, rfl⟩ := rx
  obtain ⟨t', rfl⟩ := ry
  have hsl : sizeLine = 16777216 := rfl
  refine PySem.P.mul_str (by rw [decide_eq_false (by omega), decide_eq_false (by omega)]; rfl) (fun a b => ?_) (fun a b => ?_) ?_
  · have hb := Bool.or_eq_false_iff.mp b
    have hk : 2 ≤ k := by have := beq_eq_false_iff_ne.mp hb.1; omega
    have e1 : (z.length : Int) * k ≤ 16777216 := by
      have : ((z.length * k.toNat : Nat) : Int) ≤ 16777216 := by omega
      have e2 : ((k.toNat : Nat) : Int) = k := Int.toNat_of_nonneg h1
      rw [Int.natCast_mul, e2] at this
      exact this
    have e3 : (z.length : Int) ≤ 16777216 := by
      have : (z.length : Int) * 1 ≤ (z.length : Int) * k := Int.mul_le_mul_of_nonneg_left (by omega) (by omega)
      omega
    have e4 : (16777216 : Int) ≤ (2 ^ 63 - 1) / k := by
      refine Int.le_ediv_of_mul_le (by omega) ?_
      have : (16777216 : Int) * k ≤ 16777216 * 1000000 := Int.mul_le_mul_of_nonneg_left h2 (by decide)
      omega
    omega
  · unfold Builtin.Str.tooLong
    exact decide_eq_false (by omega)
  · by_cases c1 : k < 1
    · rw [if_pos c1]
      have e0 : k.toNat = 0 := by omega
      rw [e0] at q
      exact ⟨by decide, .str Str.empty, H, I.tok _, ⟨_, rfl⟩, q⟩
    · rw [if_neg c1]
      by_cases c2 : (k == 1 || z.length == 0) = true
      · rw [if_pos c2]
        have ez : strRep z k.toNat = z := by
          rcases Bool.or_eq_true_iff.mp c2 with e | e
          · have : k = 1 := beq_iff_eq.mp e
            subst this
            show (⟨#[] ++ z.cps⟩ : Str) = z
            simp
          · have hz0 : z.cps = #[] := by
              have : z.cps.size = 0 := beq_iff_eq.mp e
              exact Array.eq_empty_of_size_eq_zero this
            have : ∀ n, (List.replicate n z.cps).foldl (· ++ ·) #[] = (#[] : Array _) := by
              intro n
              induction n with
              | zero => rfl
              | succ n ih => rw [List.replicate_succ, List.foldl_cons, hz0] at *; simpa using ih
            unfold strRep
            rw [this]
            cases z
            simp at hz0
            subst hz0
            rfl
        rw [ez] at q
        exact ⟨.str z, H, I, ⟨t, rfl⟩, q⟩
      · rw [if_neg c2]
        exact ⟨by have := strRep_len z k.toNat; unfold strRep at this; rw [this]; exact hz, .str _, H, I.tok _, ⟨_, rfl⟩, q⟩
def rMulV (K : PySem.W.Frag) : R2 := fun x y H Q => (rI CMul (fun i j => .int (i * j)) x y H Q) ∨ rRepK K x y H Q ∨ rRepA K x y H Q ∨ (∃ z k, x = .str z ∧ y = .int k ∧ 0 ≤ k ∧ k ≤ 1000000 ∧ z.length * k.toNat ≤ sizeLine ∧ Q (.str (strRep z k.toNat)) H)
theorem op_mulV {X : Cx} : OpR X (binaryOp .Mult) (rMulV X.K) := op_mul.or (op_repK.or (op_repA.or op_repS))
def rMulD : R2D := fun x y S Q => match x, y with
  | .int i, .int j => CMul i j ∧ Q (.int (i * j)) S
  | .str z, .int k => (0 ≤ k ∧ k ≤ 1000000 ∧ z.length * k.toNat ≤ sizeLine) ∧ Q (.str (strRep z k.toNat)) S
  | .tup xs, .int k => (-1000 ≤ k ∧ k ≤ 1000 ∧ xs.length ≤ 1000) ∧ Q (.tup (List.replicate k.toNat xs).flatten) S
  | x, .int k => (match asLst S x with
    | some xs => (0 ≤ k ∧ k < 2 ^ 60 ∧ xs.length * k.toNat ≤ sizeLine) ∧ Q (.lst (List.replicate k.toNat xs).flatten) S
    | none => False)
  | _, _ => False
theorem RDs.flat {K : PySem.W.Frag} {G : Addr → Prop} {S : HD} {H : Hp} {ds : List D} {vs : List V} (r : RDs K G S H ds vs) : ∀ n : Nat, RDs K G S H (List.replicate n ds).flatten (List.replicate n vs).flatten
  | 0 => .nil
  | n + 1 => by rw [List.replicate_succ, List.replicate_succ, List.flatten_cons, List.flatten_cons]; exact r.append (RDs.flat r n)
theorem mul2 {K : PySem.W.Frag} : Op2 K (rMulV K) rMulD := by
  intro G S H d1 d2 v1 v2 Qd Q rh q1 q2 t p
  unfold rMulD at t
  split at t
  · cases q1; cases q2; exact .inl ⟨_, _, rfl, rfl, t.1, p.here rh (.int _) t.2⟩
  · cases q1; cases q2; exact .inr (.inr (.inr ⟨_, _, rfl, rfl, t.1.1, t.1.2.1, t.1.2.2, p.here rh (.str _) t.2⟩))
  · rename_i xs k
    cases q2
    cases q1 with
    | @tup a1 vs _ h1 r1 =>
      refine .inr (.inr (.inl ⟨a1, k, vs, rfl, rfl, h1.sq, t.1.1, t.1.2.1, by rw [← r1.length]; exact t.1.2.2, fun e => ?_, fun e q hq => p.newT rh (r1.flat _) t.2 hq⟩))
      refine p.here rh (.tup h1 r1) ?_
      have e2 : (List.replicate k.toNat xs).flatten = xs := by
        rcases e with e | e
        · subst e
          cases r1
          simp
        · subst e; simp
      rw [e2] at t
      exact t.2
  · cases q2
    split at t
    · rename_i xs e
      obtain ⟨a, vs, rfl, l1, r1⟩ := asLst_ok rh e q1
      exact .inr (.inl ⟨a, _, vs, rfl, rfl, l1, t.1.1, t.1.2.1, by rw [← r1.length]; exact t.1.2.2, fun q hq => p.newL rh (r1.flat _) t.2 hq⟩)
    · exact t.elim
  · exact t.elim
theorem de_mul {X : Cx} {a b : Expr} {ta tb : TED} {pos : Pos} (ha : DE X a ta) (hb : DE X b tb) : DE X (.BinOp a .Mult b pos) (tBin rMulD ta tb) := de_op op_mulV mul2 ha hb
end PD
end

section
/-! PD6: deep values as the library's data: repr, ==, !=. -/
namespace PD
open PySem PySem.Spec PyProof.Rows L2

mutual
def py : D → PyData
  | .non => .none
  | .bl b => .bool b
  | .int i => .int i
  | .str x => .str x
  | .tup xs => .tuple (pyL xs)
  | .lst xs => .list (pyL xs)
  | .dic kvs => .dict (pyK kvs)
  | .ref _ => .none
  | .ty _ => .none
  | .deck => .none
def pyL : List D → List PyData
  | [] => []
  | x :: xs => py x :: pyL xs
def pyK : List (D × D) → List (PyData × PyData)
  | [] => []
  | (k, v) :: r => (py k, py v) :: pyK r
end
mutual
/-- may be shown -/
def okR : D → Bool
  | .non => true
  | .bl _ => true
  | .int i => decide (i.natAbs.log2 < 1920)
  | .str x => PyData.strOk x
  | .tup xs => okRL xs
  | .lst xs => okRL xs
  | .dic kvs => okRK kvs
  | .ref _ => false
  | .ty _ => false
  | .deck => false
def okRL : List D → Bool
  | [] => true
  | x :: xs => okR x && okRL xs
def okRK : List (D × D) → Bool
  | [] => true
  | (k, v) :: r => okR k && okR v && okRK r
end
mutual
/-- may be compared -/
def okE : D → Bool
  | .non => true
  | .bl _ => true
  | .int _ => true
  | .str x => PyData.strOk x
  | .tup xs => okEL xs
  | .lst xs => okEL xs
  | .dic _ => false
  | .ref _ => false
  | .ty _ => false
  | .deck => false
def okEL : List D → Bool
  | [] => true
  | x :: xs => okE x && okEL xs
end
mutual
def dep : D → Nat
  | .tup xs => depL xs + 1
  | .lst xs => depL xs + 1
  | .dic kvs => depK kvs + 1
  | .non => 0
  | .bl _ => 0
  | .int _ => 0
  | .str _ => 0
  | .ref _ => 0
  | .ty _ => 0
  | .deck => 0
def depL : List D → Nat
  | [] => 0
  | x :: xs => max (dep x) (depL xs)
def depK : List (D × D) → Nat
  | [] => 0
  | (k, v) :: r => max (max (dep k) (dep v)) (depK r)
end
mutual
/-- no more signs than this -/
def sz : D → Nat
  | .non => 4
  | .bl _ => 5
  | .int i => i.natAbs.log2 + 3
  | .str x => 10 * x.length + 2
  | .tup xs => szL xs + 3
  | .lst xs => szL xs + 3
  | .dic kvs => szK kvs + 3
  | .ref _ => 0
  | .ty _ => 0
  | .deck => 0
def szL : List D → Nat
  | [] => 0
  | x :: xs => sz x + 2 + szL xs
def szK : List (D × D) → Nat
  | [] => 0
  | (k, v) :: r => sz k + sz v + 4 + szK r
end
theorem pyL_map : ∀ xs : List D, pyL xs = xs.map py
  | [] => rfl
  | x :: xs => by simp [pyL, pyL_map xs]
mutual
theorem dep_py : ∀ d : D, (py d).depth = dep d
  | .non => rfl
  | .bl _ => rfl
  | .int _ => rfl
  | .str _ => rfl
  | .ref _ => rfl
  | .ty _ => rfl
  | .deck => rfl
  | .tup xs => by simp only [py, PyData.depth, dep, depL_py xs]
  | .lst xs => by simp only [py, PyData.depth, dep, depL_py xs]
  | .dic kvs => by simp only [py, PyData.depth, dep, depK_py kvs]
theorem depL_py : ∀ xs : List D, PyData.depthAll (pyL xs) = depL xs
  | [] => rfl
  | x :: xs => by simp only [pyL, PyData.depthAll, depL, dep_py x, depL_py xs]
theorem depK_py : ∀ xs : List (D × D), PyData.depthKv (pyK xs) = depK xs
  | [] => rfl
  | (k, v) :: xs => by simp only [pyK, PyData.depthKv, depK, dep_py k, dep_py v, depK_py xs]
end
mutual
theorem show_py : ∀ d : D, okR d = true → (py d).showable = true
  | .non, _ => rfl
  | .bl _, _ => rfl
  | .int _, h => h
  | .str _, _ => rfl
  | .tup xs, h => by simp only [py, PyData.showable]; exact showL_py xs h
  | .lst xs, h => by simp only [py, PyData.showable]; exact showL_py xs h
  | .dic kvs, h => by simp only [py, PyData.showable]; exact showK_py kvs h
theorem showL_py : ∀ xs : List D, okRL xs = true → PyData.showableAll (pyL xs) = true
  | [], _ => rfl
  | x :: xs, h => by
    simp only [okRL, Bool.and_eq_true] at h
    simp only [pyL, PyData.showableAll, show_py x h.1, showL_py xs h.2, Bool.and_self]
theorem showK_py : ∀ xs : List (D × D), okRK xs = true → PyData.showableKv (pyK xs) = true
  | [], _ => rfl
  | (k, v) :: xs, h => by
    simp only [okRK, Bool.and_eq_true] at h
    simp only [pyK, PyData.showableKv, show_py k h.1.1, show_py v h.1.2, showK_py xs h.2, Bool.and_self]
end
theorem log2_pow (n : Nat) : n < 10 ^ (n.log2 + 1) := by
  have h1 : n < 2 ^ (n.log2 + 1) := Nat.lt_log2_self
  have h2 : 2 ^ (n.log2 + 1) ≤ 10 ^ (n.log2 + 1) := Nat.pow_le_pow_left (by decide) _
  omega
theorem len_int (i : Int) : (Str.ofString (toString i)).length ≤ i.natAbs.log2 + 2 := by
  cases i with
  | ofNat n =>
    have h := toString_length_le (v := Int.ofNat n) (Int.natCast_nonneg n) (k := n.log2 + 1) (by omega) (by
      have := log2_pow n
      show ((n : Nat) : Int) < 10 ^ (n.log2 + 1)
      exact_mod_cast this)
    show _ ≤ n.log2 + 2
    omega
  | negSucc n =>
    have h := toString_length_le (v := ((n + 1 : Nat) : Int)) (Int.natCast_nonneg _) (k := (n + 1).log2 + 1) (by omega) (by
      have := log2_pow (n + 1)
      exact_mod_cast this)
    have e2 := len_text_neg (n := Int.negSucc n) (by omega)
    have e3 : (0 : Int) - Int.negSucc n = ((n + 1 : Nat) : Int) := by omega
    rw [e3] at e2
    show _ ≤ (n + 1).log2 + 2
    omega
theorem textFrom_le : ∀ (ts : List Str) (k : Nat) (acc : Str), (textFrom k acc ts).length ≤ acc.length + piled ts := by
  intro ts
  induction ts with
  | nil => intro k acc; simp [textFrom, piled]
  | cons t ts ih =>
    intro k acc
    rw [piled_cons]
    unfold textFrom
    refine Nat.le_trans (ih _ _) ?_
    have e2 : (", " : Str).length = 2 := by decide
    have e0 : ("" : Str).length = 0 := by decide
    split <;> (simp only [Str.length_append]; omega)
mutual
theorem shown_le : ∀ d : D, okR d = true → (py d).shown.length ≤ sz d
  | .non, _ => by simp only [py, PyData.shown, sz]; decide
  | .bl b, _ => by cases b <;> (simp only [py, PyData.shown, sz]; decide)
  | .int i, _ => by simp only [py, PyData.shown, sz]; have := len_int i; omega
  | .str x, h => by
    simp only [py, PyData.shown, sz]
    refine StrLaws.reprText_len x fun c hc => ?_
    have h' : x.cps.all (· < 0x110000) = true := h
    rw [Array.all_eq_true] at h'
    obtain ⟨i, hi, e⟩ := List.mem_iff_getElem.mp hc
    have := h' i (by simpa using hi)
    simp at this
    have e' : x.cps[i]'(by simpa using hi) = c := by simpa using e
    rw [e'] at this
    have : (16 : Nat) ^ 8 = 4294967296 := by decide
    omega
  | .tup xs, h => by
    simp only [py, PyData.shown, sz]
    have hp := piled_le xs h
    unfold tupleText
    simp only [Str.length_append]
    have e1 : ("(" : Str).length = 1 := by decide
    have e2 : (",)" : Str).length = 2 := by decide
    have e3 : (")" : Str).length = 1 := by decide
    by_cases hn : PyData.shownAll (pyL xs) = []
    · rw [hn]
      have : (Str.join ", " []).length = 0 := by decide
      rw [this]
      split <;> omega
    · have := join_length_add _ hn
      split <;> omega
  | .lst xs, h => by
    simp only [py, PyData.shown, sz]
    have hp := piled_le xs h
    unfold listText
    simp only [Str.length_append]
    have h1 := textFrom_le (PyData.shownAll (pyL xs)) 0 "["
    have e1 : ("[" : Str).length = 1 := by decide
    have e2 : ("]" : Str).length = 1 := by decide
    omega
  | .dic kvs, h => by
    simp only [py, PyData.shown, sz]
    have hp := piledK_le kvs h
    unfold dictText
    simp only [Str.length_append]
    have e1 : ("{" : Str).length = 1 := by decide
    have e2 : ("}" : Str).length = 1 := by decide
    by_cases hn : PyData.shownKv (pyK kvs) = []
    · rw [hn]
      have : (Str.join ", " []).length = 0 := by decide
      omega
    · have := join_length_add _ hn
      omega
theorem piled_le : ∀ xs : List D, okRL xs = true → piled (PyData.shownAll (pyL xs)) ≤ szL xs
  | [], _ => by simp [pyL, PyData.shownAll, piled, szL]
  | x :: xs, h => by
    simp only [okRL, Bool.and_eq_true] at h
    have h1 := shown_le x h.1
    have h2 := piled_le xs h.2
    simp only [pyL, PyData.shownAll, piled_cons, szL]
    omega
theorem piledK_le : ∀ xs : List (D × D), okRK xs = true → piled (PyData.shownKv (pyK xs)) ≤ szK xs
  | [], _ => by simp [pyK, PyData.shownKv, piled, szK]
  | (k, v) :: xs, h => by
    simp only [okRK, Bool.and_eq_true] at h
    have h1 := shown_le k h.1.1
    have h2 := shown_le v h.1.2
    have h3 := piledK_le xs h.2
    simp only [pyK, PyData.shownKv, piled_cons, szK, Str.length_append]
    have : (": " : Str).length = 2 := by decide
    omega
end
end PD
end

section
/-! PD7: repr, ==, != over deep values. -/
namespace PD
open PySem PySem.Spec PyProof.Rows L2

/-- the module's table of modules stands in the base -/
def SysB (base : Heap) : Prop := ∃ mm, base.Ns sysModules mm
section
variable {X : Cx} {pins : List (Addr × Obj)} {σ : L2.St} {H : Hp} {s : Shared} {G : Addr → Prop} {S : HD}
theorem not_sys (I : Inv X pins σ H s) (hB : SysB X.base) {a : Addr} {its : Array Value} {n : Nat} {o : Obj} (h : s.heap.get? a = some o) (hd : o.data = .seq its n) : a ≠ sysModules := fun e => by
  obtain ⟨mm, ob, es, ep, h1, h2, _⟩ := hB
  have h3 := I.bk _ _ h1
  rw [← e, h] at h3
  cases h3
  rw [hd] at h2; cases h2
mutual
theorem rd_reads (I : Inv X pins σ H s) (hB : SysB X.base) : ∀ (d : D) (v : V) (u : Value), RD X.K G S H d v → RelV v u → okR d = true ∨ okE d = true → ∃ as, Reads s.heap u (py d) as ∧ sysModules ∉ as
  | .non, _, _, q, r, _ => by cases q; cases r; exact ⟨_, .none, by simp⟩
  | .bl b, _, _, q, r, _ => by cases q; cases r; exact ⟨_, .bool b, by simp⟩
  | .int i, _, _, q, r, _ => by
    cases q
    obtain ⟨t, rfl⟩ := r
    exact ⟨_, .int i t, by simp⟩
  | .str x, _, _, q, r, _ => by
    cases q
    obtain ⟨t, rfl⟩ := r
    exact ⟨_, .str x t, by simp⟩
  | .tup xs, _, _, q, r, ok => by
    cases q with
    | tup h rs =>
      cases r
      obtain ⟨its, rv, ⟨o, e1, e2, n, e3⟩, _⟩ := I.tuple h.sq
      obtain ⟨as, q1, q2⟩ := rds_reads I hB xs _ its rs rv (ok.imp (fun z => z) fun z => z)
      exact ⟨_, .tuple e1 e2 e3 (by simpa using q1), q2⟩
  | .lst xs, _, _, q, r, ok => by
    cases q with
    | lst h rs =>
      cases r
      obtain ⟨its, rv, ⟨o, n, e1, e2, _, e3⟩, _⟩ := I.list h.sq
      obtain ⟨as, q1, q2⟩ := rds_reads I hB xs _ its rs rv (ok.imp (fun z => z) fun z => z)
      exact ⟨_, .list e1 e2 e3 (by simpa using q1), fun hm => (List.mem_cons.mp hm).elim (fun z => not_sys I hB e1 e3 z.symm) q2⟩
  | .dic kvs, _, _, q, r, ok => by
    cases q with
    | @dic a kvv _ h rs =>
      cases r
      obtain ⟨_, hs, vs, kv, o, es, ep, e1, e2, e3, _, pr, _⟩ := dk_rd I.hok h.2
      obtain ⟨as, bs, q1, q2, q3, q4⟩ := rdk_reads I hB kvs kvv vs es.toList rs kv pr (by
        rcases ok with z | z
        · exact z
        · cases z)
      refine ⟨_, .dict e1 e2.1 e3 q1 q2, fun hm => ?_⟩
      rcases List.mem_append.mp hm with hm | hm
      · rcases List.mem_cons.mp hm with hm | hm
        · rw [← hm] at hs; simp at hs
        · exact q3 hm
      · exact q4 hm
  | .ref _, _, _, _, _, ok => by rcases ok with z | z <;> cases z
  | .ty _, _, _, _, _, ok => by rcases ok with z | z <;> cases z
  | .deck, _, _, _, _, ok => by rcases ok with z | z <;> cases z
theorem rds_reads (I : Inv X pins σ H s) (hB : SysB X.base) : ∀ (ds : List D) (vs : List V) (us : List Value), RDs X.K G S H ds vs → Vals vs us → okRL ds = true ∨ okEL ds = true → ∃ as, ReadsAll s.heap us (pyL ds) as ∧ sysModules ∉ as
  | [], _, _, q, r, _ => by cases q; cases r; exact ⟨_, .nil, by simp⟩
  | d :: ds, _, _, q, r, ok => by
    cases q with
    | cons q1 q2 =>
      cases r with
      | cons r1 r2 =>
        have ok1 : okR d = true ∨ okE d = true := ok.imp (fun z => by simp only [okRL, Bool.and_eq_true] at z; exact z.1) fun z => by simp only [okEL, Bool.and_eq_true] at z; exact z.1
        have ok2 : okRL ds = true ∨ okEL ds = true := ok.imp (fun z => by simp only [okRL, Bool.and_eq_true] at z; exact z.2) fun z => by simp only [okEL, Bool.and_eq_true] at z; exact z.2
        obtain ⟨as, a1, a2⟩ := rd_reads I hB d _ _ q1 r1 ok1
        obtain ⟨bs, b1, b2⟩ := rds_reads I hB ds _ _ q2 r2 ok2
        exact ⟨_, .cons a1 b1, fun hm => (List.mem_append.mp hm).elim a2 b2⟩
theorem rdk_reads (I : Inv X pins σ H s) (hB : SysB X.base) : ∀ (ds : List (D × D)) (kvv : List (Key × V)) (vs : List (Key × Value)) (es : List DictEntry), RDk X.K G S H ds kvv → KV kvv vs → Pairs (mixKind X.prog X.w) es vs → okRK ds = true →
    ∃ as bs, ReadsAll s.heap (es.map (·.key)) ((pyK ds).map (·.1)) as ∧ ReadsAll s.heap (es.map (·.val)) ((pyK ds).map (·.2)) bs ∧ sysModules ∉ as ∧ sysModules ∉ bs
  | [], _, _, _, q, kv, pr, _ => by
    cases q; cases kv; cases pr
    exact ⟨_, _, .nil, .nil, by simp, by simp⟩
  | (k, d) :: ds, _, _, _, q, kv, pr, ok => by
    cases q with
    | @cons k' _ v _ kvs q1 q2 =>
      cases kv with
      | cons kv1 kv2 =>
        cases pr with
        | cons p1 p2 p3 =>
          simp only [okRK, Bool.and_eq_true] at ok
          obtain ⟨as, bs, a1, a2, a3, a4⟩ := rdk_reads I hB ds _ _ _ q2 kv2 p3 ok.2
          obtain ⟨ek, rv⟩ := kv1
          obtain ⟨cs, c1, c2⟩ := rd_reads I hB d _ _ q1 rv (.inl ok.1.2)
          rename_i pq _ en _
          have kr : ∃ ks, Reads s.heap en.key (py (kD k')) ks ∧ sysModules ∉ ks := by
            rw [← ek] at p1
            have p1' : keyIs k' _ = true := p1
            rcases keyIs_shape p1' with ⟨i, t, e1, e2⟩ | ⟨x, t, e1, e2⟩
            · subst e1; rw [e2]; exact ⟨_, .int i t, by simp⟩
            · subst e1; rw [e2]; exact ⟨_, .str x t, by simp⟩
          obtain ⟨ks, k1, k2⟩ := kr
          refine ⟨_, _, .cons k1 a1, .cons (show Reads s.heap en.val (py d) cs by rw [p2]; exact c1) a2, fun hm => (List.mem_append.mp hm).elim k2 a3, fun hm => (List.mem_append.mp hm).elim c2 a4⟩
end
end
/-- a tracked list at the outside is read -/
def nrm (S : HD) : D → D
  | .ref a => match S.hp a with
    | some (.lst xs) => .lst xs
    | _ => .ref a
  | d => d
section
variable {K : PySem.W.Frag} {G : Addr → Prop} {S : HD} {H : Hp}
/-- what nrm says is so, but for the place's being frozen: over a state where it is not tracked any more -/
theorem nrm_ok (rh : RH K G S H) {d : D} {v : V} (q : RD K G S H d v) : ∃ S', FL S H S' H ∧ RD K G S' H (nrm S d) v := by
  cases q with
  | ref a =>
    simp only [nrm]
    split
    · rename_i xs e
      obtain ⟨h1, h2, vs, h3, h4⟩ := rh.hp a _ e
      have le : HLe (S.del a) S := ⟨fun b u z => by
        unfold HD.del at z
        by_cases hb : b = a
        · simp [hb] at z
        · simpa [hb] using z, Nat.le_refl _, rfl⟩
      exact ⟨S.del a, le.fl, .lst (.inl ⟨⟨by simp [HD.del], fun z => h1 (le.dkE.mp z), h2⟩, .inl h3⟩) (h4.mv le.mv)⟩
    · exact ⟨S, .refl _ _, .ref a⟩
  | non => exact ⟨S, .refl _ _, .non⟩
  | bl b => exact ⟨S, .refl _ _, .bl b⟩
  | int b => exact ⟨S, .refl _ _, .int b⟩
  | str b => exact ⟨S, .refl _ _, .str b⟩
  | ty b => exact ⟨S, .refl _ _, .ty b⟩
  | tup h r => exact ⟨S, .refl _ _, .tup h r⟩
  | lst h r => exact ⟨S, .refl _ _, .lst h r⟩
  | dic h r => exact ⟨S, .refl _ _, .dic h r⟩
  | deck h => exact ⟨S, .refl _ _, .deck h⟩
end

/-- the text of a value -/
def shw (d : D) : Str := (py d).shown
/-- repr(x) -/
def rReprD : SpD := fun ds S Q => match ds with
  | [d] => (okR (nrm S d) = true ∧ dep (nrm S d) ≤ 60 ∧ sz (nrm S d) ≤ 16000000) ∧ Q (.str (shw (nrm S d))) S
  | _ => False
section
variable {X : Cx} {e : Expr} {es : List Expr} {ta : TAD} {p pos : Pos}
/-- a built-in call by values and deep values, at once -/
def CallRD (X : Cx) (f : Value) (rd : SpD) : Prop :=
  ∀ (pins : List (Addr × Obj)) (s : Shared) (σ : L2.St) (H : Hp) (vs : List V) (us : List Value) (ds : List D) (G : Addr → Prop) (S : HD) (Qd : QD) (Q : VK), Inv X pins σ H s → Vals vs us → RDs X.K G S H ds vs → RH X.K G S H → rd ds S Qd → Post X.K G S H Qd Q →
    wpAny (model X.prog X.w) X.A (call f us) (EP X pins σ Q) X.xe s
theorem CallRD.or {f : Value} {r r' : SpD} (h : CallRD X f r) (h' : CallRD X f r') : CallRD X f (fun ds S Q => r ds S Q ∨ r' ds S Q) := fun pins s σ H vs us ds G S Qd Q I rv rd rh t p =>
  t.elim (fun t => h pins s σ H vs us ds G S Qd Q I rv rd rh t p) fun t => h' pins s σ H vs us ds G S Qd Q I rv rd rh t p
theorem CallRD.imp {f : Value} {r r' : SpD} (h : CallRD X f r) (i : ∀ ds S Q, r' ds S Q → r ds S Q) : CallRD X f r' := fun pins s σ H vs us ds G S Qd Q I rv rd rh t p => h pins s σ H vs us ds G S Qd Q I rv rd rh (i _ _ _ t) p
theorem CallRD.of {f : Value} {r : List V → Hp → VK → Prop} {rd : SpD} (h : CallR X f r) (i : ∀ G S H ds vs Qd Q, RH X.K G S H → RDs X.K G S H ds vs → rd ds S Qd → Post X.K G S H Qd Q → r vs H Q) : CallRD X f rd :=
  fun pins s σ H vs us ds G S Qd Q I rv rd' rh t p => h pins s σ H vs us Q I rv (i G S H ds vs Qd Q rh rd' t p)
theorem call_reprD (k : Nat) (hr : RoomG k X.A) (hB : SysB X.base) : CallRD X (.builtin "repr") rReprD := by
  intro pins s σ H vs us ds G S Qd Q I rv rd rh t p
  unfold rReprD at t
  split at t
  · rename_i d
    obtain ⟨⟨o1, o2, o3⟩, t⟩ := t
    cases rd with
    | cons q1 r1 =>
      cases r1
      obtain ⟨u, rfl, ru⟩ := vals1 rv
      obtain ⟨S', f', q2⟩ := nrm_ok rh q1
      obtain ⟨as, rr, ns⟩ := rd_reads I hB _ _ _ q2 ru (.inl o1)
      have hs := show_py _ o1
      have hz : (py (nrm S d)).shown.length ≤ sizeLine := Nat.le_trans (shown_le _ o1) (Nat.le_trans o3 (by decide))
      have hu : X.A.units + ((py (nrm S d)).depth + 1) < cLine := by have := hr.un64; rw [dep_py]; omega
      have fin : ∀ (h' : Heap) (u' : Tok) (tk : Nat), (∀ b o, s.heap.get? b = some o → h'.get? b = some o) → EP X pins σ Q (.str (py (nrm S d)).shown u') { s with heap := h', toks := tk } := fun h' u' tk hk =>
        ⟨.str _, H, I.kept hk, ⟨u', rfl⟩, p.here rh (.str _) t⟩
      have big : ∀ a, u = .ref a → wpAny (model X.prog X.w) X.A (call (.builtin "repr") [u]) (EP X pins σ Q) X.xe s := fun a e => by
        subst e
        exact repr_of_reads' rr hs (fun _ => ns) hr.gd hu (fun _ _ e => e) fin hz
      generalize nrm S d = nd at *
      cases q2 with
      | non => cases ru; exact PySem.P.repr_of_none (fin s.heap _ _ fun _ _ e => e)
      | bl b => cases ru; exact PySem.P.repr_of_bool (fin s.heap _ _ fun _ _ e => e)
      | int i => obtain ⟨tt, rfl⟩ := ru; exact PySem.P.repr_of_int (of_decide_eq_true o1) (fin s.heap _ _ fun _ _ e => e)
      | str x => obtain ⟨tt, rfl⟩ := ru; exact PySem.P.repr_of_str (fin s.heap _ _ fun _ _ e => e) hz
      | tup h r => cases ru; exact big _ rfl
      | lst h r => cases ru; exact big _ rfl
      | dic h r => cases ru; exact big _ rfl
      | ref a => cases o1
      | ty a => cases o1
      | deck h => cases o1
  · exact t.elim
end
end PD
end

section
/-! PD8: comparisons, built-in calls, items, slices, what is walked. -/
namespace PD
open PySem PySem.Spec PyProof.Rows L2

/-- two operands by values and deep values at once -/
def OpRD (X : Cx) (f : Value → Value → Sem Value) (rd : R2D) : Prop :=
  ∀ (pins : List (Addr × Obj)) (s : Shared) (σ : L2.St) (H : Hp) (x y : V) (v u : Value) (d e : D) (G : Addr → Prop) (S : HD) (Qd : QD) (Q : VK), Inv X pins σ H s → RelV x v → RelV y u → RD X.K G S H d x → RD X.K G S H e y → RH X.K G S H →
    rd d e S Qd → Post X.K G S H Qd Q → wpAny (model X.prog X.w) X.A (f v u) (EP X pins σ Q) X.xe s
def liftR (K : PySem.W.Frag) (rd : R2D) : R2 := fun x y H Q => ∃ G S d e Qd, RH K G S H ∧ RD K G S H d x ∧ RD K G S H e y ∧ rd d e S Qd ∧ Post K G S H Qd Q
theorem OpRD.toR {X : Cx} {f : Value → Value → Sem Value} {rd : R2D} (h : OpRD X f rd) : OpR X f (liftR X.K rd) :=
  fun pins s σ H x y v u Q I rx ry ⟨G, S, d, e, Qd, rh, q1, q2, t, p⟩ => h pins s σ H x y v u d e G S Qd Q I rx ry q1 q2 rh t p
theorem lift2 {K : PySem.W.Frag} {rd : R2D} : Op2 K (liftR K rd) rd := fun G S H d1 d2 v1 v2 Qd Q rh q1 q2 t p => ⟨G, S, d1, d2, Qd, rh, q1, q2, t, p⟩
theorem OpRD.of {X : Cx} {f : Value → Value → Sem Value} {r : R2} {rd : R2D} (h : OpR X f r) (i : Op2 X.K r rd) : OpRD X f rd :=
  fun pins s σ H x y v u d e G S Qd Q I rx ry q1 q2 rh t p => h pins s σ H x y v u Q I rx ry (i G S H d e x y Qd Q rh q1 q2 t p)
def liftC (K : PySem.W.Frag) (rd : SpD) : List V → Hp → VK → Prop := fun vs H Q => ∃ G S ds Qd, RH K G S H ∧ RDs K G S H ds vs ∧ rd ds S Qd ∧ Post K G S H Qd Q
theorem CallRD.toR {X : Cx} {f : Value} {rd : SpD} (h : CallRD X f rd) : CallR X f (liftC X.K rd) :=
  fun pins s σ H vs us Q I rv ⟨G, S, ds, Qd, rh, q, t, p⟩ => h pins s σ H vs us ds G S Qd Q I rv q rh t p
section
variable {X : Cx} {e a b : Expr} {es : List Expr} {ta tb : TED} {tA : TAD} {x : Str} {p pos : Pos} {rd : SpD}
theorem up_callB {K : PySem.W.Frag} : ∀ σ H Q, up K (tCallD rd tA) σ H Q → tCB (liftC K rd) (upA K tA) σ H Q := fun σ H Q ⟨G, σd, S, Qd, rs, rh, t, p⟩ =>
  ⟨G, σd, S, _, rs, rh, t, fun S1 ds vs H1 f1 rh1 q1 t1 => ⟨G, S1, ds, Qd, rh1, q1, t1, p.fl f1⟩⟩
theorem de_callB {id : String} (hc : CallRD X (.builtin id) rd) (hm : X.mg x = none) (hv : bootBuiltins x = some (.builtin id)) (ha : DA X (e :: es) tA) (hg : Gl X x := by rfl) (hn : x ≠ "__name__" := by decide) (hdb : (x == ("__debug__" : Str)) = false := by decide)
    (he : starEach (e :: es) X.env = (false, eval e X.env) :: starEach es X.env := by rfl) (hpl : (backTo pos (starEach es X.env)).any (·.1) = false := by rfl) : DE X (.Call (.Name x p) (e :: es) [] pos) (tCallD rd tA) :=
  (pe_callB hc.toR hg hm hv ha hn hdb he hpl).imp up_callB
theorem de_callTy {T : String} (hc : CallRD X (.type T) rd) (hm : X.mg x = none) (hv : bootBuiltins x = some (.type T)) (ha : DA X (e :: es) tA) (hg : Gl X x := by rfl) (hn : x ≠ "__name__" := by decide) (hdb : (x == ("__debug__" : Str)) = false := by decide)
    (he : starEach (e :: es) X.env = (false, eval e X.env) :: starEach es X.env := by rfl) (hpl : (backTo pos (starEach es X.env)).any (·.1) = false := by rfl) : DE X (.Call (.Name x p) (e :: es) [] pos) (tCallD rd tA) :=
  (pe_callTy hc.toR hg hm hv ha hn hdb he hpl).imp up_callB
end

/-! ### == and != -/
/-- Python's == on data -/
def eqd (d e : D) : Bool := PyData.eqv (py d) (py e)
def scl : D → Bool
  | .non => true
  | .bl _ => true
  | .int _ => true
  | .str _ => true
  | _ => false
/-- the comparison is known -/
def eqk (d e : D) : Bool := (okE d && okE e && (decide (dep d ≤ 60) || decide (dep e ≤ 60))) || (match d, e with
  | .tup xs, .tup ys => xs.isEmpty || ys.isEmpty
  | .lst xs, .lst ys => xs.isEmpty || ys.isEmpty
  | .int _, .int _ => true
  | .str _, .str _ => true
  | .non, .str _ => true
  | .str _, .non => true
  | .int _, .str _ => true
  | .str _, .int _ => true
  | .bl _, .str _ => true
  | .str _, .bl _ => true
  | _, _ => false)
def rEqD : R2D := fun x y S Q => eqk (nrm S x) (nrm S y) = true ∧ Q (.bl (eqd (nrm S x) (nrm S y))) S
def rNeD : R2D := fun x y S Q => eqk (nrm S x) (nrm S y) = true ∧ Q (.bl (!eqd (nrm S x) (nrm S y))) S
theorem eqv_nilL (xs : List PyData) : PyData.eqvAll xs [] = xs.isEmpty := by cases xs <;> rfl
theorem eqv_nilR (xs : List PyData) : PyData.eqvAll [] xs = xs.isEmpty := by cases xs <;> rfl
theorem pyL_isEmpty (xs : List D) : (pyL xs).isEmpty = xs.isEmpty := by cases xs <;> rfl
section
variable {X : Cx} {pins : List (Addr × Obj)} {σ : L2.St} {H : Hp} {s : Shared} {G : Addr → Prop} {S : HD}
mutual
theorem lay_py : ∀ d : D, okE d = true → (py d).canLay0 = true
  | .non, _ => rfl
  | .bl _, _ => rfl
  | .int _, _ => rfl
  | .str _, h => h
  | .tup xs, h => layL_py xs h
  | .lst xs, h => layL_py xs h
  | .dic _, h => nomatch h
  | .ref _, h => nomatch h
  | .ty _, h => nomatch h
  | .deck, h => nomatch h
theorem layL_py : ∀ xs : List D, okEL xs = true → PyData.canLayAll0 (pyL xs) = true
  | [], _ => rfl
  | x :: xs, h => by
    simp only [okEL, Bool.and_eq_true] at h
    simp only [pyL, PyData.canLayAll0, lay_py x h.1, layL_py xs h.2, Bool.and_self]
end
/-- the two kinds of comparison in one -/
theorem cmp_at (I : Inv X pins σ H s) (hB : SysB X.base) (hu : X.A.units + 64 < cLine) {S1 S2 : HD} {d e : D} {x y : V} {v u : Value} (rx : RelV x v) (ry : RelV y u) (q1 : RD X.K G S1 H d x) (q2 : RD X.K G S2 H e y) (h : eqk d e = true) (Q : VK) :
    (Q (.bl (eqd d e)) H → wpAny (model X.prog X.w) X.A (compareOp .Eq v u) (EP X pins σ Q) X.xe s) ∧ (Q (.bl (!eqd d e)) H → wpAny (model X.prog X.w) X.A (compareOp .NotEq v u) (EP X pins σ Q) X.xe s) := by
  unfold eqk at h
  have hor := Bool.or_eq_true_iff.mp h
  clear h
  rcases hor with h | h
  · simp only [Bool.and_eq_true, Bool.or_eq_true, decide_eq_true_eq] at h
    obtain ⟨⟨h1, h2⟩, h3⟩ := h
    obtain ⟨as, r1, _⟩ := rd_reads I hB d x v q1 rx (.inr h1)
    obtain ⟨bs, r2, _⟩ := rd_reads I hB e y u q2 ry (.inr h2)
    have room : X.A.units + min (py d).depth (py e).depth < cLine := by rw [dep_py, dep_py]; omega
    exact ⟨fun q => SeqAt.compareEq_reads r1 r2 (lay_py d h1) (lay_py e h2) room ⟨.bl _, H, I, rfl, q⟩, fun q => SeqAt.compareNe_reads r1 r2 (lay_py d h1) (lay_py e h2) room ⟨.bl _, H, I, rfl, q⟩⟩
  · have sc : scal x y = true → decide (x = y) = eqd d e → (Q (.bl (eqd d e)) H → wpAny (model X.prog X.w) X.A (compareOp .Eq v u) (EP X pins σ Q) X.xe s) ∧ (Q (.bl (!eqd d e)) H → wpAny (model X.prog X.w) X.A (compareOp .NotEq v u) (EP X pins σ Q) X.xe s) :=
      fun hs hb => ⟨fun q => op_eq pins s σ H x y v u Q I rx ry ⟨hs, by rw [hb]; exact q⟩, fun q => op_ne pins s σ H x y v u Q I rx ry ⟨hs, by rw [hb]; exact q⟩⟩
    have hu0 : X.A.units < cLine := by omega
    split at h
    · rename_i xs ys
      cases q1 with
      | tup h1 r1 =>
        cases q2 with
        | tup h2 r2 =>
          cases rx; cases ry
          obtain ⟨its, rv1, p1, _⟩ := I.tuple h1.sq
          obtain ⟨its2, rv2, p2, _⟩ := I.tuple h2.sq
          have l1 : its.length = xs.length := rv1.length.symm.trans r1.length.symm
          have l2 : its2.length = ys.length := rv2.length.symm.trans r2.length.symm
          have hz : min its.toArray.size its2.toArray.size = 0 := by
            rcases Bool.or_eq_true_iff.mp h with z | z
            · rw [List.isEmpty_iff] at z; subst z; simp [List.length_eq_zero_iff.mp l1]
            · rw [List.isEmpty_iff] at z; subst z; simp [List.length_eq_zero_iff.mp l2]
          have e1 : eqd (.tup xs) (.tup ys) = ((List.range (min its.toArray.size its2.toArray.size)).all (fun _ => true) && its.toArray.size == its2.toArray.size) := by
            rw [hz]
            show PyData.eqvAll (pyL xs) (pyL ys) = _
            simp only [List.range_zero, List.all_nil, Bool.true_and, List.size_toArray, l1, l2]
            rcases Bool.or_eq_true_iff.mp h with z | z
            · rw [List.isEmpty_iff] at z; subst z
              show PyData.eqvAll [] (pyL ys) = _
              rw [eqv_nilR, pyL_isEmpty]; cases ys <;> rfl
            · rw [List.isEmpty_iff] at z; subst z
              show PyData.eqvAll (pyL xs) [] = _
              rw [eqv_nilL, pyL_isEmpty]; cases xs <;> rfl
          have none : ∀ j (h1 : j < its.toArray.size) (h2 : j < its2.toArray.size), SeqAt.EqAt X.A.in1 s its.toArray[j] its2.toArray[j] ((fun _ => true) j) := fun j h1 h2 => by omega
          refine ⟨fun q => SeqAt.RcAt.tuples p1 p2 hu0 none X.prog X.w _ _ ?_, fun q => SeqAt.RcNeAt.tuples p1 p2 hu0 none X.prog X.w _ _ ?_⟩
          · rw [← e1]; exact ⟨.bl _, H, I, rfl, q⟩
          · rw [← e1]; exact ⟨.bl _, H, I, rfl, q⟩
    · rename_i xs ys
      cases q1 with
      | lst h1 r1 =>
        cases q2 with
        | lst h2 r2 =>
          cases rx; cases ry
          obtain ⟨its, rv1, p1', _⟩ := I.list h1.sq
          obtain ⟨its2, rv2, p2', _⟩ := I.list h2.sq
          have p1 := p1'.isList
          have p2 := p2'.isList
          have l1 : its.length = xs.length := rv1.length.symm.trans r1.length.symm
          have l2 : its2.length = ys.length := rv2.length.symm.trans r2.length.symm
          by_cases hz : its.toArray.size = its2.toArray.size
          · have e1 : eqd (.lst xs) (.lst ys) = true := by
              show PyData.eqvAll (pyL xs) (pyL ys) = true
              simp only [List.size_toArray, l1, l2] at hz
              have : xs = [] ∧ ys = [] := by
                rcases Bool.or_eq_true_iff.mp h with z | z
                · rw [List.isEmpty_iff] at z; subst z; exact ⟨rfl, List.length_eq_zero_iff.mp hz.symm⟩
                · rw [List.isEmpty_iff] at z; subst z; exact ⟨List.length_eq_zero_iff.mp hz, rfl⟩
              rw [this.1, this.2]; rfl
            have z0 : its.toArray.size = 0 := by
              rcases Bool.or_eq_true_iff.mp h with z | z
              · rw [List.isEmpty_iff] at z; subst z; simp [List.length_eq_zero_iff.mp l1]
              · rw [List.isEmpty_iff] at z; subst z; rw [hz]; simp [List.length_eq_zero_iff.mp l2]
            have e2 : (List.range its.toArray.size).all (fun _ => true) = true := by rw [z0]; rfl
            have none : ∀ j (h1 : j < its.toArray.size) (h2 : j < its2.toArray.size), SeqAt.EqAt X.A.in1 s its.toArray[j] its2.toArray[j] ((fun _ => true) j) := fun j h1 h2 => by omega
            refine ⟨fun q => SeqAt.RcAt.lists p1 p2 hz hu0 none X.prog X.w _ _ ?_, fun q => SeqAt.RcNeAt.lists p1 p2 hz hu0 none X.prog X.w _ _ ?_⟩
            · rw [e2, ← e1]; exact ⟨.bl _, H, I, rfl, q⟩
            · rw [e2, ← e1]; exact ⟨.bl _, H, I, rfl, q⟩
          · have e1 : eqd (.lst xs) (.lst ys) = false := by
              show PyData.eqvAll (pyL xs) (pyL ys) = false
              refine SeqAt.eqvAll_other_length ?_
              simp only [List.size_toArray, l1, l2] at hz
              rw [pyL_map, pyL_map, List.length_map, List.length_map]
              exact hz
            have hz' : (its.toArray.size != its2.toArray.size) = true := by simpa using hz
            refine ⟨fun q => SeqAt.RcAt.lists_lengths p1 p2 hz' hu0 X.prog X.w _ _ ?_, fun q => SeqAt.RcNeAt.lists_lengths p1 p2 hz' hu0 X.prog X.w _ _ ?_⟩
            · rw [← e1]; exact ⟨.bl _, H, I, rfl, q⟩
            · rw [e1] at q; exact ⟨.bl _, H, I, rfl, q⟩
    · cases q1; cases q2; exact sc rfl (by simp [eqd, py, PyData.eqv]; rw [Bool.eq_iff_iff]; simp)
    · cases q1; cases q2; exact sc rfl (by simp [eqd, py, PyData.eqv]; rw [Bool.eq_iff_iff]; simp)
    · cases q1; cases q2; exact sc rfl (by simp [eqd, py, PyData.eqv])
    · cases q1; cases q2; exact sc rfl (by simp [eqd, py, PyData.eqv])
    · cases q1; cases q2; exact sc rfl (by simp [eqd, py, PyData.eqv])
    · cases q1; cases q2; exact sc rfl (by simp [eqd, py, PyData.eqv])
    · cases q1; cases q2; exact sc rfl (by simp [eqd, py, PyData.eqv])
    · cases q1; cases q2; exact sc rfl (by simp [eqd, py, PyData.eqv])
    · cases h
theorem op_eqRD {k : Nat} (hr : RoomG k X.A) (hB : SysB X.base) : OpRD X (compareOp .Eq) rEqD := fun pins s σ H x y v u d e G S Qd Q I rx ry q1 q2 rh t p => by
  obtain ⟨S1, _, r1⟩ := nrm_ok rh q1
  obtain ⟨S2, _, r2⟩ := nrm_ok rh q2
  exact (cmp_at I hB hr.un64 rx ry r1 r2 t.1 Q).1 (p.here rh (.bl _) t.2)
theorem op_neRD {k : Nat} (hr : RoomG k X.A) (hB : SysB X.base) : OpRD X (compareOp .NotEq) rNeD := fun pins s σ H x y v u d e G S Qd Q I rx ry q1 q2 rh t p => by
  obtain ⟨S1, _, r1⟩ := nrm_ok rh q1
  obtain ⟨S2, _, r2⟩ := nrm_ok rh q2
  exact (cmp_at I hB hr.un64 rx ry r1 r2 t.1 Q).2 (p.here rh (.bl _) t.2)
end
end PD
end

section
/-! PD9: more comparisons, built-in calls, items, slices, what is walked, methods of lists. -/
namespace PD
open PySem PySem.Spec PyProof.Rows L2

section
variable {X : Cx} {a b c e : Expr} {ta tb tc : TED} {pos : Pos}
/-- comparison of ints -/
def rCmpI (f : Int → Int → Bool) : R2D := fun x y S Q => match x, y with
  | .int i, .int j => Q (.bl (f i j)) S
  | _, _ => False
theorem cmpI {K : PySem.W.Frag} {f : Int → Int → Bool} : Op2 K (rI0 fun i j => .bl (f i j)) (rCmpI f) := fun G S H d1 d2 v1 v2 Qd Q rh q1 q2 t p => by
  unfold rCmpI at t
  split at t
  · cases q1; cases q2; exact ⟨_, _, rfl, rfl, p.here rh (.bl _) t⟩
  · exact t.elim
abbrev fLt : Int → Int → Bool := fun i j => decide (i < j)
abbrev fLe : Int → Int → Bool := fun i j => decide (i ≤ j)
abbrev fGt : Int → Int → Bool := fun i j => decide (j < i)
abbrev fGe : Int → Int → Bool := fun i j => decide (j ≤ i)
/-- is None -/
def isN : D → Bool
  | .non => true
  | _ => false
def rIsN : R1D := fun x S Q => Q (.bl (isN x)) S
def rNotN : R1D := fun x S Q => Q (.bl (!isN x)) S
theorem isN_v {K : PySem.W.Frag} {G : Addr → Prop} {S : HD} {H : Hp} {d : D} {v : V} (q : RD K G S H d v) : decide (v = .non) = isN d := by
  cases q <;> simp [isN]
theorem de_isN {j pos'} (ha : DE X a ta) : DE X (.Compare a [.Is] [.Constant .none j pos'] pos) (tUnD rIsN ta) :=
  (pe_cmp (pc_isN ha) rfl).imp fun σ H Q ⟨G, σd, S, Qd, rs, rh, t, p⟩ => ⟨G, σd, S, _, rs, rh, t, fun S1 d v H1 f1 rh1 q1 t1 => by show Q (.bl (decide (v = .non))) H1; rw [isN_v q1]; exact p S1 _ _ H1 f1 rh1 (.bl _) t1⟩
theorem de_notN {j pos'} (ha : DE X a ta) : DE X (.Compare a [.IsNot] [.Constant .none j pos'] pos) (tUnD rNotN ta) :=
  (pe_cmp (pc_notN ha) rfl).imp fun σ H Q ⟨G, σd, S, Qd, rs, rh, t, p⟩ => ⟨G, σd, S, _, rs, rh, t, fun S1 d v H1 f1 rh1 q1 t1 => by show Q (.bl (!decide (v = .non))) H1; rw [isN_v q1]; exact p S1 _ _ H1 f1 rh1 (.bl _) t1⟩
/-- a op b op' c -/
def tChainD (rd rd' : R2D) (ta tb tc : TED) : TED := fun σ S Q => ta σ S fun x S1 => tb σ S1 fun y S2 => rd x y S2 fun z S3 => match z with
  | .bl true => tc σ S3 fun w S4 => rd' y w S4 Q
  | .bl false => Q (.bl false) S3
  | _ => False

/-! ### len, isinstance, and the like -/
def rLenD : SpD := fun ds S Q => match ds with
  | [.str x] => x.length ≤ sizeLine ∧ Q (.int x.length) S
  | [d] => match asSeq S d with
    | some xs => Q (.int xs.length) S
    | none => False
  | _ => False
theorem call_lenRD : CallRD X (.builtin "len") rLenD := .of (r := fun xs H Q => (∃ p ys, xs = [.ref p] ∧ (SqL X.K H p ys ∨ SqT X.K H p ys) ∧ Q (.int ys.length) H) ∨ ∃ z, xs = [.str z] ∧ z.length ≤ sizeLine ∧ Q (.int z.length) H) (call_len_seq.or call_len_str) fun G S H ds vs Qd Q rh rd t p => by
  unfold rLenD at t
  split at t
  · cases rd with
    | cons q1 r1 => cases r1; cases q1; exact .inr ⟨_, rfl, t.1, p.here rh (.int _) t.2⟩
  · split at t
    · rename_i xs e
      cases rd with
      | cons q1 r1 =>
        cases r1
        obtain ⟨a, ws, rfl, l, r⟩ := asSeq_ok rh e q1
        exact .inl ⟨a, ws, rfl, l, by rw [← r.length]; exact p.here rh (.int _) t⟩
    · exact t.elim
  · exact t.elim
inductive Ty where | tuple | list | int | bool | str | dict
def Ty.name : Ty → String
  | .tuple => "tuple" | .list => "list" | .int => "int" | .bool => "bool" | .str => "str" | .dict => "dict"
/-- of a built-in class? none: not told here -/
def isiB (S : HD) : Ty → D → Option Bool
  | t, .non => some false
  | t, .bl _ => some (match t with | .int => true | .bool => true | _ => false)
  | t, .int _ => some (match t with | .int => true | _ => false)
  | t, .str _ => some (match t with | .str => true | _ => false)
  | t, .tup _ => some (match t with | .tuple => true | _ => false)
  | t, .lst _ => some (match t with | .list => true | _ => false)
  | t, .dic _ => some (match t with | .dict => true | _ => false)
  | t, .ref a => match S.hp a with
    | some (.lst _) => some (match t with | .list => true | _ => false)
    | some (.dic _) => some (match t with | .dict => true | _ => false)
    | _ => none
  | _, .ty _ => none
  | _, .deck => none
def rIsiD (t : Ty) : SpD := fun ds S Q => match ds with
  | [d, .ty n] => n = t.name ∧ (match isiB S t d with
    | some b => Q (.bl b) S
    | none => False)
  | _ => False
def vty : D → String
  | .non => "NoneType" | .bl _ => "bool" | .int _ => "int" | .str _ => "str" | .tup _ => "tuple" | .lst _ => "list" | .dic _ => "dict" | _ => ""
theorem call_isiRD (t : Ty) : CallRD X (.builtin "isinstance") (rIsiD t) := .of call_isi fun G S H ds vs Qd Q rh rd h p => by
  unfold rIsiD at h
  split at h
  · rename_i d n
    obtain ⟨rfl, h⟩ := h
    split at h
    · rename_i b e
      cases rd with
      | cons q1 r1 =>
        cases r1 with
        | cons q2 r2 =>
          cases r2; cases q2
          have go : ∀ (T : String) {v : V}, TyX X.K H v (.type T) → kitB T t.name = some b → rIsi X.K [v, .ty t.name] H Q := fun T v ty k => ⟨v, .ty t.name, .type T, .type t.name, b, rfl, .ty _, ty, kit_ty k, p.here rh (.bl _) h⟩
          cases q1 with
          | non => cases e; exact go "NoneType" (.base .non) (by cases t <;> decide +kernel)
          | bl x => cases e; exact go "bool" (.base (.bl x)) (by cases t <;> decide +kernel)
          | int x => cases e; exact go "int" (.base (.int x)) (by cases t <;> decide +kernel)
          | str x => cases e; exact go "str" (.base (.str x)) (by cases t <;> decide +kernel)
          | tup h1 r =>
            cases e
            refine go "tuple" ?_ (by cases t <;> decide +kernel)
            rcases h1 with ⟨_, h1 | ⟨o, h1⟩⟩ | ⟨o, its, m, h1, h2, _⟩
            · exact .base (.tup h1)
            · exact .fTuple h1
            · exact .kTuple h1 h2
          | lst h1 r =>
            cases e
            refine go "list" ?_ (by cases t <;> decide +kernel)
            rcases h1 with ⟨_, h1 | ⟨o, h1⟩⟩ | ⟨o, its, m, h1, h2, _⟩
            · exact .base (.lst h1)
            · exact .base (.frz h1)
            · exact .kList h1 h2
          | dic h1 r =>
            cases e
            refine go "dict" ?_ (by cases t <;> decide +kernel)
            rcases h1 with ⟨_, h1 | ⟨o, h1⟩⟩
            · exact .base (.dK h1)
            · exact .fDict h1
          | ref a =>
            simp only [isiB] at e
            split at e
            · rename_i xs e1
              obtain ⟨_, _, ws, h1, _⟩ := rh.hp a _ e1
              cases e
              exact go "list" (.base (.lst h1)) (by cases t <;> decide +kernel)
            · rename_i xs e1
              obtain ⟨_, _, ws, h1, _⟩ := rh.hp a _ e1
              cases e
              exact go "dict" (.base (.dK h1)) (by cases t <;> decide +kernel)
            · cases e
          | ty _ => cases e
          | deck _ => cases e
    · exact h.elim
  · exact h.elim
/-- tuple(x) -/
def rTupleD : SpD := fun ds S Q => match ds with
  | [d] => match asSeq S d with
    | some xs => Q (.tup xs) S
    | none => False
  | _ => False
theorem call_tupleRD : CallRD X (.type "tuple") rTupleD := .of call_tuple_of fun G S H ds vs Qd Q rh rd t p => by
  unfold rTupleD at t
  split at t
  · split at t
    · rename_i d xs e
      cases rd with
      | cons q1 r1 =>
        cases r1
        cases q1 with
        | tup h1 r => cases e; exact ⟨_, _, rfl, .inr ⟨h1.sq, p.here rh (.tup h1 r) t⟩⟩
        | lst h1 r => cases e; exact ⟨_, _, rfl, .inl ⟨h1.sq, fun l hl => p.newT rh r t hl⟩⟩
        | ref a =>
          obtain ⟨q, ws, e2, l, r⟩ := asLst_ok (xs := xs) rh (show asLst S (.ref a) = some xs from e) (.ref a)
          cases e2
          exact ⟨_, _, rfl, .inl ⟨l, fun l hl => p.newT rh r t hl⟩⟩
        | _ => cases e
    · exact t.elim
  · exact t.elim
/-- list(x), frozen; list(x), tracked -/
def rListV : SpD := fun ds S Q => match ds with
  | [d] => match asSeq S d with
    | some xs => Q (.lst xs) S
    | none => False
  | _ => False
def rListR : SpD := fun ds S Q => match ds with
  | [d] => match asSeq S d with
    | some xs => ∀ p, S.hp p = none → Q (.ref p) (S.set p (.lst xs))
    | none => False
  | _ => False
theorem call_listV : CallRD X (.type "list") rListV := .of call_list_of fun G S H ds vs Qd Q rh rd t p => by
  unfold rListV at t
  split at t
  · split at t
    · rename_i d xs e
      cases rd with
      | cons q1 r1 =>
        cases r1
        obtain ⟨a, ws, rfl, l, r⟩ := asSeq_ok rh e q1
        exact ⟨a, ws, rfl, l, fun l hl => p.newL rh r t hl⟩
    · exact t.elim
  · exact t.elim
theorem call_listR : CallRD X (.type "list") rListR := .of call_list_of fun G S H ds vs Qd Q rh rd t p => by
  unfold rListR at t
  split at t
  · split at t
    · rename_i d xs e
      cases rd with
      | cons q1 r1 =>
        cases r1
        obtain ⟨a, ws, rfl, l, r⟩ := asSeq_ok rh e q1
        exact ⟨a, ws, rfl, l, fun l hl => p.newR rh r t hl⟩
    · exact t.elim
  · exact t.elim
def rIntD : SpD := fun ds S Q => match ds with
  | [.int i] => Q (.int i) S
  | [.bl b] => Q (.int (if b then 1 else 0)) S
  | _ => False
theorem call_intRD : CallRD X (.type "int") rIntD := .of call_int1 fun G S H ds vs Qd Q rh rd t p => by
  unfold rIntD at t
  split at t
  · cases rd with
    | cons q1 r1 => cases r1; cases q1; exact .inl ⟨_, rfl, p.here rh (.int _) t⟩
  · cases rd with
    | cons q1 r1 => cases r1; cases q1; exact .inr ⟨_, rfl, p.here rh (.int _) t⟩
  · exact t.elim
def rBoolD : SpD := fun ds S Q => match ds with
  | [.int i] => Q (.bl (i != 0)) S
  | [.bl b] => Q (.bl b) S
  | _ => False
theorem call_boolRD : CallRD X (.type "bool") rBoolD := .of call_bool1 fun G S H ds vs Qd Q rh rd t p => by
  unfold rBoolD at t
  split at t
  · cases rd with
    | cons q1 r1 => cases r1; cases q1; exact .inl ⟨_, rfl, p.here rh (.bl _) t⟩
  · cases rd with
    | cons q1 r1 => cases r1; cases q1; exact .inr ⟨_, rfl, p.here rh (.bl _) t⟩
  · exact t.elim
def rStrD : SpD := fun ds S Q => match ds with
  | [.int i] => i.natAbs.log2 < 1920 ∧ Q (.str (toString i)) S
  | _ => False
theorem call_strRD : CallRD X (.type "str") rStrD := .of call_str_int fun G S H ds vs Qd Q rh rd t p => by
  unfold rStrD at t
  split at t
  · cases rd with
    | cons q1 r1 => cases r1; cases q1; exact ⟨_, rfl, t.1, p.here rh (.str _) t.2⟩
  · exact t.elim
def rAbsD : SpD := fun ds S Q => match ds with
  | [.int i] => Q (.int (if i < 0 then -i else i)) S
  | _ => False
theorem call_absRD : CallRD X (.builtin "abs") rAbsD := .of call_abs fun G S H ds vs Qd Q rh rd t p => by
  unfold rAbsD at t
  split at t
  · cases rd with
    | cons q1 r1 => cases r1; cases q1; exact ⟨_, rfl, p.here rh (.int _) t⟩
  · exact t.elim
def rMax2 : SpD := fun ds S Q => match ds with
  | [.int i, .int j] => Q (.int (if j > i then j else i)) S
  | _ => False
def rMin2 : SpD := fun ds S Q => match ds with
  | [.int i, .int j] => Q (.int (if j < i then j else i)) S
  | _ => False
theorem call_max2RD (hc : X.calm = true := by rfl) : CallRD X (.builtin "max") rMax2 := .of (call_max2 hc) fun G S H ds vs Qd Q rh rd t p => by
  unfold rMax2 at t
  split at t
  · cases rd with
    | cons q1 r1 =>
      cases r1 with
      | cons q2 r2 => cases r2; cases q1; cases q2; exact ⟨_, _, rfl, p.here rh (.int _) t⟩
  · exact t.elim
theorem call_min2RD (hc : X.calm = true := by rfl) : CallRD X (.builtin "min") rMin2 := .of (call_min2 hc) fun G S H ds vs Qd Q rh rd t p => by
  unfold rMin2 at t
  split at t
  · cases rd with
    | cons q1 r1 =>
      cases r1 with
      | cons q2 r2 => cases r2; cases q1; cases q2; exact ⟨_, _, rfl, p.here rh (.int _) t⟩
  · exact t.elim

/-! ### items and slices -/
theorem atI_rds {K : PySem.W.Frag} {G : Addr → Prop} {S : HD} {H : Hp} {ds : List D} {vs : List V} {i : Int} {d : D} (r : RDs K G S H ds vs) (h : atI ds i = some d) : ∃ v, atI vs i = some v ∧ RD K G S H d v := by
  unfold atI at h ⊢
  rw [← r.length]
  cases e : ixN ds.length i with
  | none => rw [e] at h; cases h
  | some j => rw [e] at h; exact r.get h
def rIxD : R2D := fun x y S Q => match x, y with
  | .str z, .int i => z.length ≤ sizeLine ∧ (match atI z.cps.toList i with
    | some c => Q (.str ⟨#[c]⟩) S
    | none => False)
  | x, .int i => (match asSeq S x with
    | some xs => (match atI xs i with
      | some d => Q d S
      | none => False)
    | none => False)
  | _, _ => False
theorem ix2 {K : PySem.W.Frag} : Op2 K (rIx K) rIxD := fun G S H d1 d2 v1 v2 Qd Q rh q1 q2 t p => by
  unfold rIxD at t
  split at t
  · cases q1; cases q2
    obtain ⟨hz, t⟩ := t
    split at t
    · rename_i c e
      exact .inr (.inr ⟨_, _, c, rfl, rfl, hz, e, p.here rh (.str _) t⟩)
    · exact t.elim
  · cases q2
    split at t
    · rename_i xs e
      split at t
      · rename_i d e2
        obtain ⟨a, ws, rfl, l, r⟩ := asSeq_ok rh e q1
        obtain ⟨v, h1, h2⟩ := atI_rds r e2
        rcases l with l | l
        · exact .inl ⟨a, ws, _, v, rfl, rfl, l, h1, p.here rh h2 t⟩
        · exact .inr (.inl ⟨a, ws, _, v, rfl, rfl, l, h1, p.here rh h2 t⟩)
      · exact t.elim
    · exact t.elim
  · exact t.elim
theorem de_ix (ha : DE X a ta) (hb : DE X b tb) (hs : PlainIx b := by exact fun _ _ => rfl) : DE X (.Subscript a b pos) (tBin rIxD ta tb) := (pe_ix ix_seq ha hb hs).imp (up_bin ix2)
/-- the ends of a slice -/
abbrev TOD := SD → HD → (Option Int → HD → Prop) → Prop
def upO (K : PySem.W.Frag) (t : TOD) : TO := fun σ H Q => ∃ G σd S Qd, RSl K G S H σd σ ∧ RH K G S H ∧ t σd S Qd ∧ ∀ S' o H', FL S H S' H' → RH K G S' H' → Qd o S' → Q o H'
abbrev DO (X : Cx) (e : Option Expr) (t : TOD) : Prop := PO X e (upO X.K t)
theorem _root_.L2.PO.imp {X : Cx} {e : Option Expr} {t t' : TO} (h : PO X e t) (i : ∀ σ H Q, t' σ H Q → t σ H Q) : PO X e t' := ⟨fun pins s σ H Q I q => h.run pins s σ H Q I (i _ _ _ q)⟩
def oNone : TOD := fun _ S Q => Q none S
def oSome (t : TED) : TOD := fun σ S Q => t σ S fun d S1 => match d with
  | .int i => Q (some i) S1
  | _ => False
theorem do_none : DO X none oNone := po_none.imp fun σ H Q ⟨G, σd, S, Qd, rs, rh, t, p⟩ => p S _ H (.refl _ _) rh t
theorem do_some (h : DE X e ta) : DO X (some e) (oSome ta) := (po_some h).imp fun σ H Q ⟨G, σd, S, Qd, rs, rh, t, p⟩ => ⟨G, σd, S, _, rs, rh, t, fun S1 d v H1 f1 rh1 q1 t1 => by
  cases q1 with
  | int i => exact ⟨i, rfl, p S1 _ H1 f1 rh1 t1⟩
  | _ => exact t1.elim⟩
def cutD (xs : List D) (lo hi : Option Int) : List D := (xs.drop (HT.sIx xs.length 0 lo)).take (HT.sIx xs.length xs.length hi - HT.sIx xs.length 0 lo)
theorem RDs.cut {K : PySem.W.Frag} {G : Addr → Prop} {S : HD} {H : Hp} {ds : List D} {vs : List V} (r : RDs K G S H ds vs) (lo hi : Option Int) : RDs K G S H (cutD ds lo hi) (cutV vs lo hi) := by
  unfold cutD cutV
  rw [← r.length]
  exact (r.drop _).take _
def rSlD (x : D) (lo hi : Option Int) (S : HD) (Q : QD) : Prop := match x with
  | .str z => z.length ≤ sizeLine ∧ Q (.str (cutS z lo hi)) S
  | .tup xs => Q (.tup (cutD xs lo hi)) S
  | x => match asLst S x with
    | some xs => Q (.lst (cutD xs lo hi)) S
    | none => False
def tSlD (te : TED) (tl th : TOD) : TED := fun σ S Q => te σ S fun x S1 => tl σ S1 fun l S2 => th σ S2 fun u S3 => rSlD x l u S3 Q
theorem de_slice {lo hi : Option Expr} {tl th : TOD} {p2 : Pos} (he : DE X e ta) (hl : DO X lo tl) (hu : DO X hi th) : DE X (.Subscript e (.Slice lo hi none p2) pos) (tSlD ta tl th) :=
  (pe_slice (r := fun x lo hi H Q => rSlA X.K x lo hi H Q ∨ rSlL X.K x lo hi H Q ∨ rSlS x lo hi H Q) (sl_tupA.or (sl_list.or sl_str)) he hl hu).imp fun σ H Q ⟨G, σd, S, Qd, rs, rh, t, p⟩ =>
    ⟨G, σd, S, _, rs, rh, t, fun S1 d v H1 f1 rh1 q1 t1 => ⟨G, σd, S1, _, rs.fl f1, rh1, t1, fun S2 l H2 f2 rh2 t2 => ⟨G, σd, S2, _, rs.fl (f1.trans f2), rh2, t2, fun S3 u H3 f3 rh3 t3 => by
      have q3 := q1.fl (f2.trans f3)
      have p3 := p.fl (f1.trans (f2.trans f3))
      unfold rSlD at t3
      split at t3
      · cases q3; exact .inr (.inr ⟨_, rfl, t3.1, p3.here rh3 (.str _) t3.2⟩)
      · rename_i xs
        cases q3 with
        | @tup a vs _ h1 r1 =>
          refine .inl ⟨a, vs, rfl, h1.sq, fun hw => ?_, fun _ q hq => p3.newT rh3 (r1.cut l u) t3 hq⟩
          have e : cutD xs l u = xs := by
            unfold cutD
            rw [r1.length, hw.1, hw.2, ← r1.length]
            simp
          rw [e] at t3
          exact p3.here rh3 (.tup h1 r1) t3
      · split at t3
        · rename_i xs e1
          obtain ⟨a, ws, rfl, l1, r⟩ := asLst_ok rh3 e1 q3
          exact .inr (.inl ⟨a, ws, rfl, l1, fun q hq => p3.newL rh3 (r.cut l u) t3 hq⟩)
        · exact t3.elim⟩⟩⟩

/-! ### what is walked -/
theorem itOk_list {K : PySem.W.Frag} {G' : Addr → Prop} {S : HD} {H : Hp} {a : Addr} {xs : List D} {keep : HD → Prop} (h : ∀ S1 H1, FL S H S1 H1 → RH K G' S1 H1 → keep S1 → ∃ vs, SqL K H1 a vs ∧ RDs K G' S1 H1 xs vs) : ItOk K G' S H (Itl K a) xs keep where
  go := fun i d S1 H1 hx f r k => by
    obtain ⟨vs, h1, h2⟩ := h S1 H1 f r k
    obtain ⟨v, e1, e2⟩ := h2.get hx
    refine ⟨⟨vs, v, h1, e1⟩, fun x H2 y => ?_⟩
    obtain ⟨rfl, y⟩ := y
    have := y vs h1
    rw [e1] at this
    cases this
    exact ⟨.refl _ _, r, e2⟩
  stop := fun S1 H1 f r k => by
    obtain ⟨vs, h1, h2⟩ := h S1 H1 f r k
    exact ⟨vs, h1, by rw [h2.length]; exact Nat.le_refl _⟩
theorem itOk_tup {K : PySem.W.Frag} {G' : Addr → Prop} {S : HD} {H : Hp} {a : Addr} {xs : List D} {keep : HD → Prop} (h : ∀ S1 H1, FL S H S1 H1 → RH K G' S1 H1 → keep S1 → ∃ vs, SqT K H1 a vs ∧ RDs K G' S1 H1 xs vs) : ItOk K G' S H (Itt K a) xs keep where
  go := fun i d S1 H1 hx f r k => by
    obtain ⟨vs, h1, h2⟩ := h S1 H1 f r k
    obtain ⟨v, e1, e2⟩ := h2.get hx
    refine ⟨⟨vs, v, h1, e1⟩, fun x H2 y => ?_⟩
    obtain ⟨rfl, y⟩ := y
    have := y vs h1
    rw [e1] at this
    cases this
    exact ⟨.refl _ _, r, e2⟩
  stop := fun S1 H1 f r k => by
    obtain ⟨vs, h1, h2⟩ := h S1 H1 f r k
    exact ⟨vs, h1, by rw [h2.length]; exact Nat.le_refl _⟩
theorem itOk_rng {K : PySem.W.Frag} {G' : Addr → Prop} {S : HD} {H : Hp} {lo : Int} {n : Nat} {keep : HD → Prop} : ItOk K G' S H (Itr lo n) ((List.range n).map fun (i : Nat) => D.int (lo + i)) keep where
  go := fun i d S1 H1 hx f r k => by
    rw [List.getElem?_map] at hx
    cases e : (List.range n)[i]? with
    | none => rw [e] at hx; cases hx
    | some j =>
      rw [e] at hx
      obtain ⟨hi, e2⟩ := List.getElem?_eq_some_iff.mp e
      simp at hi e2
      subst e2
      cases hx
      refine ⟨hi, fun x H2 y => ?_⟩
      obtain ⟨rfl, rfl⟩ := y
      exact ⟨.refl _ _, r, .int _⟩
  stop := fun S1 H1 f r k => by
    show n ≤ _
    simp
/-- a list or a tuple, told by its value -/
def iAny (K : PySem.W.Frag) (tl : TE) : TI := fun σ H R => tl σ H fun x H1 => ∃ a, x = .ref a ∧ ((∃ xs, SqL K H1 a xs ∧ R (Itl K a) H1) ∨ ∃ xs, SqT K H1 a xs ∧ R (Itt K a) H1)
theorem pi_any {X : Cx} {tg l : Expr} {tl : TE} (hl : PE X l tl) : PI X tg l (iAny X.K tl) := by
  refine ⟨fun pins s σ H R I h => thn (hl.run pins s σ H _ I h) fun v s1 hv => ?_⟩
  obtain ⟨x, H1, I1, rx, a, rfl, q⟩ := hv
  cases rx
  have fp : ∀ b ∈ [s1.heap.objs.size], FpOk X pins H1 b := fun b hb => by
    obtain rfl : b = s1.heap.objs.size := by simpa using hb
    exact I1.fpOk (Nat.le_refl _) (I1.hok.fresh (Nat.le_refl _))
  rcases q with ⟨xs, hq, q⟩ | ⟨xs, hq, q⟩
  · obtain ⟨its, rv, pl, hz⟩ := I1.list hq
    exact wpAny_pyIter_list pl.isList ⟨s1.heap.objs.size, [s1.heap.objs.size], _, _, H1, rfl, I1.kept (t' := s1.toks) (fun b o e => Heap.get?_push_of_some _ e), turn_list a _, ⟨_, Heap.get?_push_size _ rfl, rfl, rfl⟩, fp, q⟩
  · obtain ⟨its, rv, pl, hz⟩ := I1.tuple hq
    exact wpAny_pyIter_tuple (show s1.heap.IsTuple a its.toArray from pl) ⟨s1.heap.objs.size, [s1.heap.objs.size], _, _, H1, rfl, I1.kept (t' := s1.toks) (fun b o e => Heap.get?_push_of_some _ e), turn_tuple a _, ⟨_, Heap.get?_push_size _ rfl, rfl, rfl⟩, fp, q⟩
def iSeqD (te : TED) : TID := fun σ S R => te σ S fun d S1 => match d with
  | .tup xs => xs.length ≤ sizeLine → R xs (fun _ => True) S1
  | .lst xs => xs.length ≤ sizeLine → R xs (fun _ => True) S1
  | .ref a => (match S1.hp a with
    | some (.lst xs) => xs.length ≤ sizeLine → R xs (fun S => S.hp a = some (.lst xs)) S1
    | _ => False)
  | _ => False
theorem FzT.mv {K : PySem.W.Frag} {G G' : Addr → Prop} {S S' : HD} {H H' : Hp} (m : Mv G S H G' S' H') {a : Addr} {vs : List V} (h : FzT K G S H a vs) : FzT K G' S' H' a vs := h.imp (fun z => m.rd z) id
theorem FzL.mv {K : PySem.W.Frag} {G G' : Addr → Prop} {S S' : HD} {H H' : Hp} (m : Mv G S H G' S' H') {a : Addr} {vs : List V} (h : FzL K G S H a vs) : FzL K G' S' H' a vs := h.imp (fun z => m.rd z) id
theorem di_seq {X : Cx} {tg l : Expr} {tl : TED} (hl : DE X l tl) : DI X tg l (iSeqD tl) :=
  (pi_any (PE.szs hl)).imp fun σ H R ⟨G, σd, S, Rd, rs, rh, t, p⟩ => ⟨G, σd, S, _, rs, rh, t, fun S1 d v H1 f1 rh1 q1 t1 hz => by
    cases q1 with
    | @tup a vs xs h1 r =>
      exact ⟨a, rfl, .inr ⟨vs, h1.sq, p S1 _ _ _ H1 f1 rh1 (fun G' S2 H2 m2 rh2 => itOk_tup fun S3 H3 f3 rh3 _ => ⟨vs, ((h1.mv m2).mv f3.mv).sq, (r.mv m2).fl f3⟩) (t1 (by rw [r.length]; exact hz.2 _ _ h1.sq))⟩⟩
    | @lst a vs xs h1 r =>
      exact ⟨a, rfl, .inl ⟨vs, h1.sq, p S1 _ _ _ H1 f1 rh1 (fun G' S2 H2 m2 rh2 => itOk_list fun S3 H3 f3 rh3 _ => ⟨vs, ((h1.mv m2).mv f3.mv).sq, (r.mv m2).fl f3⟩) (t1 (by rw [r.length]; exact hz.1 _ _ h1.sq))⟩⟩
    | ref a =>
      simp only at t1
      split at t1
      · rename_i xs e
        obtain ⟨_, _, vs, e1, r⟩ := rh1.hp a _ e
        refine ⟨a, rfl, .inl ⟨vs, SqL.of e1, p S1 _ _ _ H1 f1 rh1 (fun G' S2 H2 m2 rh2 => itOk_list fun S3 H3 f3 rh3 k3 => ?_) (t1 (by rw [r.length]; exact hz.1 _ _ (SqL.of e1)))⟩⟩
        obtain ⟨_, _, ws, e2, r2⟩ := rh3.hp a _ k3
        exact ⟨ws, SqL.of e2, r2⟩
      · exact t1.elim
    | _ => exact t1.elim⟩
/-- range(n), range(a, b) -/
def rngD (lo : Int) (n : Nat) : List D := (List.range n).map fun (i : Nat) => D.int (lo + i)
theorem rngD_len (lo : Int) (n : Nat) : (rngD lo n).length = n := by simp [rngD]
def iRng1D (ta : TAD) : TID := fun σ S R => ta σ S fun ds S1 => match ds with
  | [.int j] => (-1000000000 ≤ j ∧ j ≤ 10000000) ∧ R (rngD 0 j.toNat) (fun _ => True) S1
  | _ => False
def iRng2D (ta : TAD) : TID := fun σ S R => ta σ S fun ds S1 => match ds with
  | [.int i, .int j] => (-1000000000 ≤ i ∧ i ≤ 1000000000 ∧ -1000000000 ≤ j ∧ j ≤ 1000000000 ∧ j - i ≤ 10000000) ∧ R (rngD i (j - i).toNat) (fun _ => True) S1
  | _ => False
theorem di_range1 {X : Cx} {tg a : Expr} {ta : TAD} {p pos : Pos} (hm : X.mg "range" = none) (ha : DA X [a] ta) (hg : Gl X "range" := by rfl) (hs : starEach [a] X.env = [(false, eval a X.env)] := by rfl) : DI X tg (.Call (.Name "range" p) [a] [] pos) (iRng1D ta) :=
  (pi_range1 hg hm ha hs).imp fun σ H R ⟨G, σd, S, Rd, rs, rh, t, p⟩ => ⟨G, σd, S, _, rs, rh, t, fun S1 ds vs H1 f1 rh1 q1 t1 => by
    split at t1
    · cases q1 with
      | cons q r =>
        cases r; cases q
        exact ⟨_, rfl, by omega, by omega, p S1 _ _ _ H1 f1 rh1 (fun G' S2 H2 m2 rh2 => itOk_rng) t1.2⟩
    · exact t1.elim⟩
theorem di_range2 {X : Cx} {tg a b : Expr} {ta : TAD} {p pos : Pos} (hm : X.mg "range" = none) (ha : DA X [a, b] ta) (hg : Gl X "range" := by rfl) (hs : starEach [a, b] X.env = [(false, eval a X.env), (false, eval b X.env)] := by rfl) (hs2 : starEach [b] X.env = [(false, eval b X.env)] := by rfl) :
    DI X tg (.Call (.Name "range" p) [a, b] [] pos) (iRng2D ta) :=
  (pi_range2 hg hm ha hs hs2).imp fun σ H R ⟨G, σd, S, Rd, rs, rh, t, p⟩ => ⟨G, σd, S, _, rs, rh, t, fun S1 ds vs H1 f1 rh1 q1 t1 => by
    split at t1
    · cases q1 with
      | cons q r =>
        cases r with
        | cons q' r' =>
          cases r'; cases q; cases q'
          exact ⟨_, _, rfl, ⟨by omega, by omega, by omega, by omega⟩, p S1 _ _ _ H1 f1 rh1 (fun G' S2 H2 m2 rh2 => itOk_rng) t1.2⟩
    · exact t1.elim⟩

/-! ### methods of tracked lists, stores -/
theorem RH.writeL {K : PySem.W.Frag} {G : Addr → Prop} {S : HD} {H : Hp} (rh : RH K G S H) {a : Addr} {xs ys : List D} {ws : List V} (h : S.hp a = some (.lst xs)) (r : RDs K G S H ys ws) : RH K G (S.set a (.lst ys)) (upd H a (.lst ws)) ∧ FL S H (S.set a (.lst ys)) (upd H a (.lst ws)) := by
  have m : Mv G S H G (S.set a (.lst ys)) (upd H a (.lst ws)) := ⟨fun b o e z => by
    have ne : b ≠ a := fun q => by rw [← q, z.1] at h; cases h
    exact ⟨⟨by rw [HD.set_ne ne]; exact z.1, z.2.1, z.2.2⟩, by rw [upd_ne ne]; exact e⟩, fun _ e => e⟩
  exact rh.write h ⟨ws, upd_same, r.mv m⟩
/-- xs.append(v) -/
def tMethD (rd : D → List D → HD → QD → Prop) (to : TED) (ta : TAD) : TED := fun σ S Q => to σ S fun x S1 => ta σ S1 fun ds S2 => rd x ds S2 Q
def rAppD : D → List D → HD → QD → Prop := fun x ds S Q => match x, ds with
  | .ref a, [d] => (match S.hp a with
    | some (.lst xs) => xs.length < 16000000 ∧ Q .non (S.set a (.lst (xs ++ [d])))
    | _ => False)
  | _, _ => False
def isRefL (S : HD) : D → Prop
  | .ref a => ∃ xs, S.hp a = some (.lst xs)
  | _ => False
section
variable {X : Cx} {o e : Expr} {es : List Expr} {to : TED} {ta : TAD} {name : Str} {apos cpos : Pos}
/-- o.m(e, ..) of a tracked list; the receiver is told before the arguments are -/
def tMethL (rd : D → List D → HD → QD → Prop) (to : TED) (ta : TAD) : TED := fun σ S Q => to σ S fun x S1 => isRefL S1 x ∧ ta σ S1 fun ds S2 => rd x ds S2 Q
theorem de_methL {id : String} {r : V → List V → Hp → VK → Prop} {rd : D → List D → HD → QD → Prop} (slot : Slot "list" name id) (hty : typeOf (.builtin id) = pure (.type "method_descriptor")) (hm : MtR X id r)
    (i : ∀ G S H d v ds vs Qd Q, RH X.K G S H → RD X.K G S H d v → RDs X.K G S H ds vs → rd d ds S Qd → Post X.K G S H Qd Q → r v vs H Q) (ho : DE X o to) (ha : DA X (e :: es) ta)
    (hbase : attributeBase o name X.env (eval o X.env) = eval o X.env := by rfl)
    (hfew : ((backTo cpos (starEach (e :: es) X.env)).all (fun x => !x.1) && (backToKw cpos (keywordEach [] X.env)).all (fun x => x.1.isSome)
      && decide ((e :: es).length + ([] : List Keyword).length + (if ([] : List Keyword).isEmpty then 0 else 1) < 30)) = true := by rfl)
    (hline : (apos.endLine == cpos.line) = true := by rfl) (hs : starEach (e :: es) X.env = (false, eval e X.env) :: starEach es X.env := by rfl) (hplain : (backTo cpos (starEach es X.env)).any (·.1) = false := by rfl) :
    DE X (.Call (.Attribute o name apos) (e :: es) [] cpos) (tMethL rd to ta) :=
  (pe_bm PySem.F.plainAttrs_list slot hty hm ho ha hbase hfew hline hs hplain).imp fun σ H Q ⟨G, σd, S, Qd, rs, rh, t, p⟩ => ⟨G, σd, S, _, rs, rh, t, fun S1 d v H1 f1 rh1 q1 ⟨hl, t1⟩ => by
    cases q1 with
    | ref a =>
      obtain ⟨xs, e1⟩ := hl
      obtain ⟨_, _, ws, e2, _⟩ := rh1.hp a _ e1
      exact ⟨.inl ⟨rfl, _, SqL.of e2⟩, G, σd, S1, _, rs.fl f1, rh1, t1, fun S2 ds vs H2 f2 rh2 q2 t2 => i G S2 H2 _ _ ds vs _ _ rh2 (.ref a) q2 t2 (p.fl (f1.trans f2))⟩
    | _ => exact hl.elim⟩
theorem appD_ok {K : PySem.W.Frag} : ∀ G S H d v ds vs Qd Q, RH K G S H → RD K G S H d v → RDs K G S H ds vs → rAppD d ds S Qd → Post K G S H Qd Q → rAppend v vs H Q := by
  intro G S H d v ds vs Qd Q rh q1 q2 t p
  unfold rAppD at t
  split at t
  · rename_i a d
    split at t
    · rename_i xs e
      obtain ⟨_, _, ws, e1, r⟩ := rh.hp a _ e
      cases q1
      cases q2 with
      | @cons _ y _ _ q2 r2 =>
        cases r2
        obtain ⟨rh', f'⟩ := rh.writeL e (r.append (.cons q2 .nil))
        exact ⟨a, ws, y, rfl, rfl, e1, by have := r.length; have : (sizeLine : Nat) = 16777216 := rfl; omega, p _ _ _ _ f' rh' .non t.2⟩
    · exact t.elim
  · exact t.elim
theorem de_append (ho : DE X o to) (ha : DA X [e] ta) (hbase : attributeBase o "append" X.env (eval o X.env) = eval o X.env := by rfl)
    (hfew : ((backTo cpos (starEach (e :: []) X.env)).all (fun x => !x.1) && (backToKw cpos (keywordEach [] X.env)).all (fun x => x.1.isSome)
      && decide ((e :: ([] : List Expr)).length + ([] : List Keyword).length + (if ([] : List Keyword).isEmpty then 0 else 1) < 30)) = true := by rfl)
    (hline : (apos.endLine == cpos.line) = true := by rfl) (hs : starEach (e :: []) X.env = (false, eval e X.env) :: starEach [] X.env := by rfl) : DE X (.Call (.Attribute o "append" apos) [e] [] cpos) (tMethL rAppD to ta) :=
  de_methL PySem.F.slot_list_append PySem.F.type_list_append mt_append appD_ok ho ha hbase hfew hline hs rfl
end
end
end PD
end

section
/-! PD10: chains of comparisons, stores into lists, the deck of draws. -/
namespace PD
open PySem PySem.Spec PyProof.Rows L2

section
variable {X : Cx} {a b c e o i : Expr} {ta tb tc to ti : TED} {pos : Pos}
theorem up_chain {K : PySem.W.Frag} {r r' : R2} {rd rd' : R2D} (h : Op2 K r rd) (h' : Op2 K r' rd') : ∀ σ H Q, up K (tChainD rd rd' ta tb tc) σ H Q → tChain r r' (up K ta) (up K tb) (up K tc) σ H Q := fun σ H Q ⟨G, σd, S, Qd, rs, rh, t, p⟩ =>
  ⟨G, σd, S, _, rs, rh, t, fun S1 d v H1 f1 rh1 q1 t1 => ⟨G, σd, S1, _, rs.fl f1, rh1, t1, fun S2 d2 v2 H2 f2 rh2 q2 t2 => h G S2 H2 d d2 v v2 _ _ rh2 (q1.fl f2) q2 t2 fun S3 z vz H3 f3 rh3 q3 t3 => by
    cases q3 with
    | bl k =>
      refine ⟨k, rfl, ?_⟩
      cases k with
      | true => exact iteT ⟨G, σd, S3, _, rs.fl (f1.trans (f2.trans f3)), rh3, t3, fun S4 d4 v4 H4 f4 rh4 q4 t4 => h' G S4 H4 d2 d4 v2 v4 _ _ rh4 (q2.fl (f3.trans f4)) q4 t4 (p.fl (f1.trans (f2.trans (f3.trans f4))))⟩
      | false => exact iteF (p S3 _ _ H3 (f1.trans (f2.trans f3)) rh3 (.bl false) t3)
    | _ => exact t3.elim⟩⟩
theorem de_chain {op op' : CmpOp} {r r' : R2} {rd rd' : R2D} (ho : OpR X (compareOp op) r) (ho' : OpR X (compareOp op') r') (h : Op2 X.K r rd) (h' : Op2 X.K r' rd') (ha : DE X a ta) (hb : DE X b tb) (hc : DE X c tc)
    (hm : lastMarks [op, op'] [b, c] = false := by with_unfolding_all rfl) : DE X (.Compare a [op, op'] [b, c] pos) (tChainD rd rd' ta tb tc) := (pe_chain ho ho' ha hb hc hm).imp (up_chain h h')
theorem dt_chain {op op' : CmpOp} {r r' : R2} {rd rd' : R2D} (ho : OpR X (compareOp op) r) (ho' : OpR X (compareOp op') r') (h : Op2 X.K r rd) (h' : Op2 X.K r' rd') (ha : DE X a ta) (hb : DE X b tb) (hc : DE X c tc)
    (hm : lastMarks [op, op'] [b, c] = false := by with_unfolding_all rfl) : DT X (.Compare a [op, op'] [b, c] pos) (tTst (tChainD rd rd' ta tb tc)) :=
  (pt_chain ho ho' ha hb hc hm).imp fun σ H Q ⟨G, σd, S, Qd, rs, rh, t, p⟩ => up_chain h h' σ H _ ⟨G, σd, S, _, rs, rh, t, fun S1 d v H1 f1 rh1 q1 t1 => by
    cases q1 with
    | bl k => exact ⟨k, rfl, p S1 k H1 f1 rh1 t1⟩
    | _ => exact t1.elim⟩

/-! ### xs[i] = e -/
def rSetD (o i v : D) (S : HD) (Q : HD → Prop) : Prop := match o, i with
  | .ref a, .int k => (match S.hp a with
    | some (.lst xs) => (match ixN xs.length k with
      | some j => Q (S.set a (.lst (xs.set j v)))
      | none => False)
    | _ => False)
  | _, _ => False
def gSubD (to ti : TED) : TGD := fun v σ S Q => to σ S fun o S1 => ti σ S1 fun i S2 => rSetD o i v S2 fun S3 => Q σ S3
theorem dg_sub (ho : DE X o to) (hi : DE X i ti)
    (ha : ∀ v, assign (.Subscript o i pos) X.env v = (do
      let ov ← holding [v] (eval o X.env)
      let iv ← holding [v, ov] (eval i X.env)
      standAt pos
      holding [v, ov, iv] (setItem ov iv v)
      release [v, ov, iv] []) := by intro _; rfl) : DG X (.Subscript o i pos) (gSubD to ti) :=
  (pg_sub ho hi set_list ha).imp fun v σ H Q ⟨G, σd, S, d, Qd, rs, rh, q, t, p⟩ =>
    ⟨G, σd, S, _, rs, rh, t, fun S1 d1 v1 H1 f1 rh1 q1 t1 => ⟨G, σd, S1, _, rs.fl f1, rh1, t1, fun S2 d2 v2 H2 f2 rh2 q2 t2 => by
      unfold rSetD at t2
      split at t2
      · split at t2
        · rename_i xs e
          split at t2
          · rename_i j ej
            cases q1
            cases q2
            obtain ⟨_, _, ws, e1, r⟩ := rh2.hp _ _ e
            obtain ⟨rh', f'⟩ := rh2.writeL e (r.set (q.fl (f1.trans f2)) j)
            exact ⟨_, ws, _, j, rfl, rfl, e1, by rw [← r.length]; exact ej, p _ _ _ _ (f1.trans (f2.trans f')) rh' (rs.fl (f1.trans (f2.trans f'))) t2⟩
          · exact t2.elim
        · exact t2.elim
      · exact t2.elim⟩⟩
end

/-! ### the deck of draws -/
section
variable {K : PySem.W.Frag} {G : Addr → Prop} {S : HD} {H : Hp}
theorem rds_ints : ∀ {ns : List Int} {vs : List V}, RDs K G S H (ns.map D.int) vs → vs = ns.map V.int
  | [], _, h => by cases h; rfl
  | n :: ns, _, h => by
    cases h with
    | cons q r => cases q; rw [rds_ints r]; rfl
/-- the deck alone, opened -/
def openD (S : HD) (a b : Addr) (cells : List Int) (n : Nat) : HD := { hp := fun x => if x = a then some (.lst [.ref b, .int (n : Int)]) else if x = b then some (.lst (cells.map D.int)) else none, c := S.c, dk := none }
theorem openD_rh (rh : RH K G S H) {a b : Addr} (h : S.dk = some (a, b)) {cells : List Int} {n : Nat} (h1 : H a = some (.lst [.ref b, .int (n : Int)])) (h2 : H b = some (.lst (cells.map V.int))) : RH K G (openD S a b cells n) H where
  hp := fun x o e => by
    have nd : ¬ Dk (openD S a b cells n) x := fun ⟨p, q, _⟩ => by cases q
    simp only [openD] at e
    split at e
    · rename_i hx
      subst hx
      cases e
      exact ⟨nd, fun g => (rh.rs x g).2 ⟨_, h, .inl rfl⟩, _, h1, .cons (.ref _) (.cons (.int _) .nil)⟩
    · split at e
      · rename_i _ hx
        subst hx
        cases e
        exact ⟨nd, fun g => (rh.rs x g).2 ⟨_, h, .inr rfl⟩, _, h2, RDs.ints _⟩
      · cases e
  rs := fun x g => ⟨(rh.rs x g).1, fun ⟨p, q, _⟩ => by cases q⟩
  dk := fun _ _ e => by cases e
theorem closeD (rh : RH K G S H) {a b : Addr} (h : S.dk = some (a, b)) {cells cells' : List Int} {n m : Nat} {S1 : HD} {H1 : Hp} (f1 : FL (openD S a b cells n) H S1 H1) (rh1 : RH K G S1 H1)
    (h1 : S1.hp a = some (.lst [.ref b, .int (m : Int)])) (h2 : S1.hp b = some (.lst (cells'.map D.int))) (hl : cells'.length ≤ 63) (hp : ∀ z ∈ cells', 0 ≤ z) (hm : m ≤ S.c + 1) : FL S H (S.tick 1) H1 ∧ RH K G (S.tick 1) H1 := by
  obtain ⟨nab, ha, hb, _⟩ := rh.dk a b h
  have out : ∀ {x : Addr}, x ≠ a → x ≠ b → (openD S a b cells n).hp x = none := fun {x} n1 n2 => by simp [openD, n1, n2]
  have nd : ∀ x, ¬ Dk (openD S a b cells n) x := fun x ⟨p, q, _⟩ => by cases q
  have ne : ∀ {x : Addr}, ¬ Dk S x → x ≠ a ∧ x ≠ b := fun {x} d => ⟨fun z => d ⟨_, h, .inl z⟩, fun z => d ⟨_, h, .inr z⟩⟩
  have fl : FL S H (S.tick 1) H1 := ⟨fun x o e n d => by
    obtain ⟨n1, n2⟩ := ne d
    exact ⟨n, d, (f1.kp x o e (out n1 n2) (nd x)).2.2⟩, fun p q => q⟩
  refine ⟨fl, ⟨fun x o e => ?_, fun x g => ?_, fun c d e => ?_⟩⟩
  · obtain ⟨d, g, r⟩ := rh.hp x o e
    obtain ⟨n1, n2⟩ := ne d
    obtain ⟨u, q⟩ := r.there
    exact ⟨d, g, r.mv fl.mv (((f1.kp x u q (out n1 n2) (nd x)).2.2).trans q.symm)⟩
  · obtain ⟨⟨o, e⟩, d⟩ := rh.rs x g
    obtain ⟨n1, n2⟩ := ne d
    exact ⟨⟨o, (f1.kp x o e (out n1 n2) (nd x)).2.2⟩, d⟩
  · have e' : S.dk = some (c, d) := e
    rw [h] at e'
    cases e'
    obtain ⟨_, _, vs, e1, r1⟩ := rh1.hp _ _ h1
    obtain ⟨_, _, ws, e2, r2⟩ := rh1.hp _ _ h2
    rw [rds_ints r2] at e2
    have e3 : vs = [.ref b, .int (m : Int)] := by
      cases r1 with
      | cons q r =>
        cases r with
        | cons q' r' => cases r'; cases q; cases q'; rfl
    rw [e3] at e1
    exact ⟨nab, ha, hb, cells', m, e1, e2, hm, hl, hp⟩
/-- a new deck -/
theorem newDeck {S1 : HD} {H1 : Hp} (rh : RH K G S H) (h0 : S.dk = none) (f1 : FL S H S1 H1) (rh1 : RH K G S1 H1) (hs : ∀ x o, S.hp x = some o → S1.hp x = some o) (hd1 : S1.dk = none) {a b : Addr} {cells : List Int} (nab : a ≠ b) (na : S.hp a = none) (nb : S.hp b = none)
    (h1 : S1.hp a = some (.lst [.ref b, .int 0])) (h2 : S1.hp b = some (.lst (cells.map D.int))) (hl : cells.length ≤ 63) (hp : ∀ z ∈ cells, 0 ≤ z) : FL S H { S with dk := some (a, b), c := 0 } H1 ∧ RH K G { S with dk := some (a, b), c := 0 } H1 := by
  have nd1 : ∀ x, ¬ Dk S1 x := fun x ⟨p, q, _⟩ => by rw [hd1] at q; cases q
  have nd : ∀ x, ¬ Dk S x := fun x ⟨p, q, _⟩ => by rw [h0] at q; cases q
  have nd2 : ∀ {x : Addr}, x ≠ a → x ≠ b → ¬ Dk { S with dk := some (a, b), c := 0 } x := fun {x} n1 n2 ⟨p, q, z⟩ => by
    have q' : some (a, b) = some p := q
    cases q'
    exact z.elim n1 n2
  have ne : ∀ {x : Addr}, S1.hp x = none → x ≠ a ∧ x ≠ b := fun {x} e => ⟨fun z => (by rw [z, h1] at e; cases e), fun z => (by rw [z, h2] at e; cases e)⟩
  have back : ∀ {x : Addr}, S1.hp x = none → S.hp x = none := fun {x} e => by
    cases q : S.hp x with
    | none => rfl
    | some o => rw [hs x o q] at e; cases e
  have mv : Mv G S1 H1 G { S with dk := some (a, b), c := 0 } H1 := ⟨fun x o e z => by
    obtain ⟨n1, n2⟩ := ne z.1
    exact ⟨⟨back z.1, nd2 n1 n2, z.2.2⟩, e⟩, fun p q => by rw [hd1] at q; cases q⟩
  refine ⟨⟨fun x o e n d => ?_, fun p q => by rw [h0] at q; cases q⟩, ⟨fun x o e => ?_, fun x g => ?_, fun c d e => ?_⟩⟩
  · obtain ⟨n', d', e'⟩ := f1.kp x o e n d
    obtain ⟨n1, n2⟩ := ne n'
    exact ⟨n, nd2 n1 n2, e'⟩
  · obtain ⟨d, g, r⟩ := rh1.hp x o (hs x o e)
    have n1 : x ≠ a := fun z => by rw [z, na] at e; cases e
    have n2 : x ≠ b := fun z => by rw [z, nb] at e; cases e
    exact ⟨nd2 n1 n2, g, r.mv mv rfl⟩
  · refine ⟨(rh1.rs x g).1, nd2 (fun z => ?_) fun z => ?_⟩
    · exact (rh1.hp _ _ h1).2.1 (z ▸ g)
    · exact (rh1.hp _ _ h2).2.1 (z ▸ g)
  · have e' : some (a, b) = some (c, d) := e
    cases e'
    obtain ⟨_, _, vs, e1, r1⟩ := rh1.hp _ _ h1
    obtain ⟨_, _, ws, e2, r2⟩ := rh1.hp _ _ h2
    rw [rds_ints r2] at e2
    have e3 : vs = [.ref b, .int 0] := by
      cases r1 with
      | cons q r =>
        cases r with
        | cons q' r' => cases r'; cases q; cases q'; rfl
    rw [e3] at e1
    exact ⟨nab, na, nb, cells, 0, e1, e2, Nat.le_refl _, hl, hp⟩
end
/-- a draw: a number below m -/
def spDraw : SpD := fun ds S Q => match ds with
  | [.deck, .int m] => (1 ≤ m ∧ m ≤ 500000000 ∧ S.c < 1000000000000) ∧ ∀ r : Int, 0 ≤ r → r < m → Q (.int r) (S.tick 1)
  | _ => False
/-- the deck of a script -/
def spDeck : SpD := fun ds S Q => match ds with
  | [.lst xs] => (∃ ns : List Int, xs = ns.map D.int) ∧ S.dk = none ∧ ∀ p, Q .deck { S with dk := some p, c := 0 }
  | _ => False
/-- what the body of a draw must do, the deck open -/
def DrawOk (t : TSD) (n : Nat) : Prop := ∀ (S : HD) (a b : Addr) (cells : List Int) (k : Nat) (m : Int), a ≠ b → k < 1000000000000 → cells.length ≤ 63 → (∀ z ∈ cells, 0 ≤ z) → 1 ≤ m → m ≤ 500000000 →
  t { nx := fun _ _ => False, rt := fun d S1 => ∃ (r : Int) (cells' : List Int), d = .int r ∧ 0 ≤ r ∧ r < m ∧ S1.hp a = some (.lst [.ref b, .int ((k + 1 : Nat) : Int)]) ∧ S1.hp b = some (.lst (cells'.map D.int)) ∧ cells'.length ≤ 63 ∧ ∀ z ∈ cells', 0 ≤ z }
    (pad n [.ref a, .int m]) (openD S a b cells k)
/-- what the body that makes a deck must do -/
def DeckOk (t : TSD) (n : Nat) : Prop := ∀ (S : HD) (ns : List Int), S.dk = none →
  t { nx := fun _ _ => False, rt := fun d S1 => ∃ (a b : Addr) (cells : List Int), d = .ref a ∧ a ≠ b ∧ S.hp a = none ∧ S.hp b = none ∧ S1.hp a = some (.lst [.ref b, .int 0]) ∧ S1.hp b = some (.lst (cells.map D.int)) ∧ cells.length ≤ 63 ∧ (∀ z ∈ cells, 0 ≤ z) ∧ (∀ x o, S.hp x = some o → S1.hp x = some o) ∧ S1.dk = none }
    (pad n [.lst (ns.map D.int)]) S
section
variable {P : Program} {w : World} {K : PySem.W.Frag} {mg : Str → Option Value} {base : Heap} {x qual : Str} {st : Stmt} {f : Addr} {fd : FuncData} {N : List Str} {k : Nat}
theorem FnD.draw {p1 p2 : Str} (F : Fun K x qual st f fd) (Sc : FnScope N [p1, p2] (defScope st)) (t : TSD)
    (hd : ∀ (cdv : Value) (A : Around) (outer : List Env) (s : Shared) (H : Hp), RoomG k (A.deeper (envOfC qual (defScope st) s.heap.objs.size f cdv)) →
      DSs (cxOf CX0 P w K mg base N qual (defScope st) f cdv A outer s H E0).nox (defBody st) t)
    (ok : DrawOk t N.length) : FnD P w K mg base (k + 1) f fd [p1, p2] spDraw := by
  refine FnD.core F Sc t (fun ds S Q q => ?_) hd fun ds S Qd hsp G H vs rh rd => ?_
  · unfold spDraw at q
    split at q
    · rfl
    · exact q.elim
  · unfold spDraw at hsp
    split at hsp
    · rename_i m
      obtain ⟨⟨m1, m2, m3⟩, hsp⟩ := hsp
      cases rd with
      | cons q r =>
        cases r with
        | cons q' r' =>
          cases r'; cases q'
          cases q with
          | @deck a b e =>
            obtain ⟨nab, ha, hb, cells, n, h1, h2, h3, h4, h5⟩ := rh.dk a b e
            refine ⟨_, _, _, openD_rh rh e h1 h2, .cons (.ref a) (.cons (.int m) .nil), ok S a b cells n m nab (by omega) h4 h5 m1 m2, ?_, fun _ _ _ _ _ q => q.elim, fun _ _ q => q, fun _ _ q => q, fun _ _ _ q => q⟩
            rintro S1 d v H1 f1 rh1 rd1 ⟨r, cells', rfl, r0, r1, g1, g2, g3, g4⟩
            cases rd1
            obtain ⟨fl, rh2⟩ := closeD rh e f1 rh1 g1 g2 g3 g4 (by omega)
            exact ⟨_, .int r, fl, rh2, .int r, hsp r r0 r1⟩
    · exact hsp.elim
theorem FnD.deck {p1 : Str} (F : Fun K x qual st f fd) (Sc : FnScope N [p1] (defScope st)) (t : TSD)
    (hd : ∀ (cdv : Value) (A : Around) (outer : List Env) (s : Shared) (H : Hp), RoomG k (A.deeper (envOfC qual (defScope st) s.heap.objs.size f cdv)) →
      DSs (cxOf CX0 P w K mg base N qual (defScope st) f cdv A outer s H E0).nox (defBody st) t)
    (ok : DeckOk t N.length) : FnD P w K mg base (k + 1) f fd [p1] spDeck := by
  refine FnD.core F Sc t (fun ds S Q q => ?_) hd fun ds S Qd hsp G H vs rh rd => ?_
  · unfold spDeck at q
    split at q
    · rfl
    · exact q.elim
  · unfold spDeck at hsp
    split at hsp
    · obtain ⟨⟨ns, rfl⟩, h0, hsp⟩ := hsp
      refine ⟨_, S, _, rh, rd, ok S ns h0, ?_, fun _ _ _ _ _ q => q.elim, fun _ _ q => q, fun _ _ q => q, fun _ _ _ q => q⟩
      rintro S1 d v H1 f1 rh1 rd1 ⟨a, b, cells, rfl, nab, na, nb, h1, h2, h3, h4, h5, h6⟩
      cases rd1
      obtain ⟨fl, rh2⟩ := newDeck rh h0 f1 rh1 h5 h6 nab na nb h1 h2 h3 h4
      exact ⟨_, .deck, fl, rh2, .deck rfl, hsp (a, b)⟩
    · exact hsp.elim
end
end PD
end

section
/-! PD11: small rules that the printer of derivations uses. -/
namespace PD
open PySem PySem.Spec PyProof.Rows L2
section
variable {X : Cx} {a b c e : Expr} {ta tb tc : TED} {pos : Pos}
theorem dt_isN {j pos'} (ha : DE X a ta) : DT X (.Compare a [.Is] [.Constant .none j pos'] pos) (tTst (tUnD rIsN ta)) :=
  (pt_cmp (pc_isN ha) rfl).imp fun σ H Q ⟨G, σd, S, Qd, rs, rh, t, p⟩ => ⟨G, σd, S, _, rs, rh, t, fun S1 d v H1 f1 rh1 q1 t1 => ⟨_, rfl, by rw [isN_v q1]; exact p S1 _ H1 f1 rh1 t1⟩⟩
theorem dt_notN {j pos'} (ha : DE X a ta) : DT X (.Compare a [.IsNot] [.Constant .none j pos'] pos) (tTst (tUnD rNotN ta)) :=
  (pt_cmp (pc_notN ha) rfl).imp fun σ H Q ⟨G, σd, S, Qd, rs, rh, t, p⟩ => ⟨G, σd, S, _, rs, rh, t, fun S1 d v H1 f1 rh1 q1 t1 => ⟨_, rfl, by rw [isN_v q1]; exact p S1 _ H1 f1 rh1 t1⟩⟩
theorem de_gI {x : Str} {i : Int} {pos : Pos} (hm : ∃ t, X.mg x = some (.int i t)) (hg : Gl X x := by rfl) (hd : (x == ("__debug__" : Str)) = false := by decide) : DE X (.Name x pos) (tCD (.int i)) :=
  let ⟨_, h⟩ := hm; de_globI hg h hd
theorem de_gS {x : Str} {i : Str} {pos : Pos} (hm : ∃ t, X.mg x = some (.str i t)) (hg : Gl X x := by rfl) (hd : (x == ("__debug__" : Str)) = false := by decide) : DE X (.Name x pos) (tCD (.str i)) :=
  let ⟨_, h⟩ := hm; de_globS hg h hd
theorem de_eq {k : Nat} (hr : RoomG k X.A) (hB : SysB X.base) (ha : DE X a ta) (hb : DE X b tb) : DE X (.Compare a [.Eq] [b] pos) (tBin rEqD ta tb) := de_cmp (op_eqRD hr hB).toR lift2 ha hb (nomark _)
theorem de_ne {k : Nat} (hr : RoomG k X.A) (hB : SysB X.base) (ha : DE X a ta) (hb : DE X b tb) : DE X (.Compare a [.NotEq] [b] pos) (tBin rNeD ta tb) := de_cmp (op_neRD hr hB).toR lift2 ha hb (nomark _)
theorem dt_eq {k : Nat} (hr : RoomG k X.A) (hB : SysB X.base) (ha : DE X a ta) (hb : DE X b tb) : DT X (.Compare a [.Eq] [b] pos) (tTst (tBin rEqD ta tb)) := dt_cmp (op_eqRD hr hB).toR lift2 ha hb (nomark _)
theorem dt_ne {k : Nat} (hr : RoomG k X.A) (hB : SysB X.base) (ha : DE X a ta) (hb : DE X b tb) : DT X (.Compare a [.NotEq] [b] pos) (tTst (tBin rNeD ta tb)) := dt_cmp (op_neRD hr hB).toR lift2 ha hb (nomark _)
theorem de_lt (ha : DE X a ta) (hb : DE X b tb) : DE X (.Compare a [.Lt] [b] pos) (tBin (rCmpI fLt) ta tb) := de_cmp op_lt cmpI ha hb (nomark _)
theorem de_le (ha : DE X a ta) (hb : DE X b tb) : DE X (.Compare a [.LtE] [b] pos) (tBin (rCmpI fLe) ta tb) := de_cmp op_le cmpI ha hb (nomark _)
theorem de_gt (ha : DE X a ta) (hb : DE X b tb) : DE X (.Compare a [.Gt] [b] pos) (tBin (rCmpI fGt) ta tb) := de_cmp op_gt cmpI ha hb (nomark _)
theorem de_ge (ha : DE X a ta) (hb : DE X b tb) : DE X (.Compare a [.GtE] [b] pos) (tBin (rCmpI fGe) ta tb) := de_cmp op_ge cmpI ha hb (nomark _)
theorem dt_lt (ha : DE X a ta) (hb : DE X b tb) : DT X (.Compare a [.Lt] [b] pos) (tTst (tBin (rCmpI fLt) ta tb)) := dt_cmp op_lt cmpI ha hb (nomark _)
theorem dt_le (ha : DE X a ta) (hb : DE X b tb) : DT X (.Compare a [.LtE] [b] pos) (tTst (tBin (rCmpI fLe) ta tb)) := dt_cmp op_le cmpI ha hb (nomark _)
theorem dt_gt (ha : DE X a ta) (hb : DE X b tb) : DT X (.Compare a [.Gt] [b] pos) (tTst (tBin (rCmpI fGt) ta tb)) := dt_cmp op_gt cmpI ha hb (nomark _)
theorem dt_ge (ha : DE X a ta) (hb : DE X b tb) : DT X (.Compare a [.GtE] [b] pos) (tTst (tBin (rCmpI fGe) ta tb)) := dt_cmp op_ge cmpI ha hb (nomark _)
/-- a < b < c -/
theorem de_lele (ha : DE X a ta) (hb : DE X b tb) (hc : DE X c tc) (hm : lastMarks [.LtE, .LtE] [b, c] = false := by with_unfolding_all rfl) : DE X (.Compare a [.LtE, .LtE] [b, c] pos) (tChainD (rCmpI fLe) (rCmpI fLe) ta tb tc) := de_chain op_le op_le cmpI cmpI ha hb hc hm
theorem dt_lele (ha : DE X a ta) (hb : DE X b tb) (hc : DE X c tc) (hm : lastMarks [.LtE, .LtE] [b, c] = false := by with_unfolding_all rfl) : DT X (.Compare a [.LtE, .LtE] [b, c] pos) (tTst (tChainD (rCmpI fLe) (rCmpI fLe) ta tb tc)) := dt_chain op_le op_le cmpI cmpI ha hb hc hm
theorem de_ltle (ha : DE X a ta) (hb : DE X b tb) (hc : DE X c tc) (hm : lastMarks [.Lt, .LtE] [b, c] = false := by with_unfolding_all rfl) : DE X (.Compare a [.Lt, .LtE] [b, c] pos) (tChainD (rCmpI fLt) (rCmpI fLe) ta tb tc) := de_chain op_lt op_le cmpI cmpI ha hb hc hm
theorem dt_ltle (ha : DE X a ta) (hb : DE X b tb) (hc : DE X c tc) (hm : lastMarks [.Lt, .LtE] [b, c] = false := by with_unfolding_all rfl) : DT X (.Compare a [.Lt, .LtE] [b, c] pos) (tTst (tChainD (rCmpI fLt) (rCmpI fLe) ta tb tc)) := dt_chain op_lt op_le cmpI cmpI ha hb hc hm
/-- {} that stays empty -/
def tDicV : TED := fun _ S Q => Q (.dic []) S
theorem de_dicV : DE X (.Dict [] [] pos) tDicV := pe_dnewK.imp fun σ H Q ⟨G, σd, S, Qd, rs, rh, t, p⟩ => fun q hq => by
  obtain ⟨r', f', z⟩ := rh.newF hq (.dK [])
  exact p S _ _ _ f' r' (.dic ⟨z, .inl upd_same⟩ .nil) t
theorem bt_repr : bootBuiltins "repr" = some (.builtin "repr") := by decide +kernel
theorem bt_isinstance : bootBuiltins "isinstance" = some (.builtin "isinstance") := by decide +kernel
theorem bt_len : bootBuiltins "len" = some (.builtin "len") := by decide +kernel
theorem bt_abs : bootBuiltins "abs" = some (.builtin "abs") := by decide +kernel
theorem bt_max : bootBuiltins "max" = some (.builtin "max") := by decide +kernel
theorem bt_min : bootBuiltins "min" = some (.builtin "min") := by decide +kernel
theorem bt_sum : bootBuiltins "sum" = some (.builtin "sum") := by decide +kernel
theorem bt_sorted : bootBuiltins "sorted" = some (.builtin "sorted") := by decide +kernel
theorem bt_int : bootBuiltins "int" = some (.type "int") := by decide +kernel
theorem bt_bool : bootBuiltins "bool" = some (.type "bool") := by decide +kernel
theorem bt_str : bootBuiltins "str" = some (.type "str") := by decide +kernel
theorem bt_tuple : bootBuiltins "tuple" = some (.type "tuple") := by decide +kernel
theorem bt_list : bootBuiltins "list" = some (.type "list") := by decide +kernel
theorem bt_dict : bootBuiltins "dict" = some (.type "dict") := by decide +kernel
theorem bt_set : bootBuiltins "set" = some (.type "set") := by decide +kernel
end
end PD
end

section
/-! PD12: the law's end over deep values. -/
namespace PD
open PySem PySem.Spec PyProof.Rows L2

/-- the law's promise: from the script it answers True -/
def spLaw : SpD := fun ds S Q => ∃ ns : List Int, ds = [.lst (ns.map D.int)] ∧ ns.length ≤ 63 ∧ S.hp = (fun _ => none) ∧ S.c = 0 ∧ S.dk = none ∧ ∀ S', Q (.bl true) S'
def S00 : HD := ⟨fun _ => none, 0, none⟩
theorem rds_ofInts {K : PySem.W.Frag} {G : Addr → Prop} {S : HD} {H : Hp} : ∀ ns : List Int, RDs K G S H (ns.map D.int) (ns.map V.int)
  | [] => .nil
  | n :: ns => .cons (.int n) (rds_ofInts ns)
section
variable {P : Program} {w : World} {K : PySem.W.Frag} {mg mb : Str → Option Value} {k : Nat} {fa a : Addr} {fd : FuncData} {x : Str} {s₁ : Shared} {vs : List Value} {ns : List Int}
/-- the script alone is tracked, or nothing -/
def scr (a : Addr) (vs : List Value) (ns : List Int) : Hp := fun b => if b = a then some (.frz { cls := .type "list", data := .seq vs.toArray } (.lst (ns.map V.int))) else none
def AOnly (a : Addr) (vs : List Value) (ns : List Int) (H : Hp) : Prop := (∀ b, H b = none) ∨ (∀ b, H b = scr a vs ns b)
theorem AOnly.cs {H : Hp} (h : AOnly a vs ns H) (b : Addr) : H b = none ∨ (b = a ∧ H b = some (.frz { cls := .type "list", data := .seq vs.toArray } (.lst (ns.map V.int)))) := by
  rcases h with h | h
  · exact .inl (h b)
  · rw [h b]
    unfold scr
    by_cases e : b = a
    · exact .inr ⟨e, if_pos e⟩
    · exact .inl (if_neg e)
theorem law_callD1 (KX : K.In s₁.heap) (hns : s₁.heap.Ns mainGlobals mg) (hsy : SysB s₁.heap) (hb : s₁.heap.Ns builtinsNs mb) (hbb : ∀ x : Str, x ≠ "__name__" → mb x = bootBuiltins x) (hlim : s₁.heap.NoLimit) (hg : s₁.gens = #[])
    (ha : s₁.heap.get? a = some { cls := .type "list", data := .seq vs.toArray }) (hl : ns.length ≤ 63) (hr : RoomG k callerA)
    (F : ∀ base : Heap, K.In base → base.Ns mainGlobals mg → SysB base → FnD P w K mg base k fa fd [x] spLaw) (hbind : ∀ (s : Shared) (u : Value), BindsTo s fd ⟨[u], []⟩ [(x, u)])
    {H : Hp} (hO : AOnly a vs ns H) (hS : FzL K (fun _ => False) S00 H a (ns.map V.int)) (hok : HOk P w H s₁.heap) (hK : H a ≠ none → K.lookup a = none) :
    codeAny (model P w) callerA (.call (.ref fa) ⟨[.ref a], []⟩) (fun r s' => r = .ok (.ret (.bool true)) ∧ OldK s₁.heap s'.heap ∧ s'.os = s₁.os ∧ AllBare s'.gens) s₁ := by
  have nd : ∀ {b : Addr} {o : Obj} {es : Array DictEntry} {ep : Nat}, s₁.heap.get? b = some o → o.data = .dict es ep → H b = none := fun {b o es ep} e d => by
    rcases hO.cs b with z | ⟨z, _⟩
    · exact z
    · subst z
      rw [ha] at e
      cases e
      exact nomatch (show Data.seq vs.toArray _ = Data.dict es ep from d)
  have ns' : ∀ {b : Addr} {m : Str → Option Value}, s₁.heap.Ns b m → (hidT s₁.heap H).Ns b m := fun {b m} ⟨o, es, ep, e, d, r⟩ => ⟨o, es, ep, hidT_get e (nd e d), d, r⟩
  have kin : K.In (hidT s₁.heap H) := fun b o e => hidT_get (KX b o e) (by
    rcases hO.cs b with z | ⟨z, z'⟩
    · exact z
    · subst z
      rw [hK (by rw [z']; simp)] at e
      cases e)
  have sy : SysB (hidT s₁.heap H) := let ⟨mm, h⟩ := hsy; ⟨mm, ns' h⟩
  have md : Mod K mg (hidT s₁.heap H) := ⟨kin, ns' hns, ⟨mb, ns' hb, hbb⟩, let ⟨mc, h1, h2⟩ := hlim; ⟨mc, ns' h1, h2⟩⟩
  have ev : Env0 P w K mg (hidT s₁.heap H) callerA [] s₁ H := ⟨rfl, md, fun b o e => of_hidT e, Nat.le_of_eq (hidT_size _ _), trivial, fun b hb => (nomatch (show b ∈ ([] : List Addr) from hb)), hok, .of_eq hg⟩
  have run := (F _ kin (ns' hns) sy).run callerA [] s₁ H ⟨[.ref a], []⟩ [.ref a] [.ref a] [.lst (ns.map D.int)] (fun _ => False) S00 (fun d _ => d = .bl true) hr ev (hbind s₁ (.ref a)) (.cons rfl .nil)
    (.cons (.lst hS (rds_ofInts ns)) .nil) ⟨fun _ _ e => (nomatch (show (none : Option OD) = some _ from e)), fun b (g : False) => False.elim g, fun _ _ e => (nomatch (show (none : Option (Addr × Addr)) = some _ from e))⟩ ⟨ns, rfl, hl, rfl, rfl, rfl, fun _ => rfl⟩
  refine codeAny_mono run fun r s' h => ?_
  match r, h with
  | .error e, h => exact False.elim h
  | .ok .next, h => exact False.elim h
  | .ok .brk, h => exact False.elim h
  | .ok .cont, h => exact False.elim h
  | .ok (.ret u), h =>
    obtain ⟨v, H', os, bare, un, hok', r', S', d, _, _, rd, rfl⟩ := h
    cases rd
    obtain rfl : u = Value.bool true := r'
    refine ⟨rfl, OldK.of_keep fun b o e => ?_, os, bare⟩
    rcases hO.cs b with z | ⟨_, z⟩
    · exact un.keep b o e z (fun q => nomatch (show b ∈ ([] : List Addr) from q)) (by simp)
    · obtain ⟨e1, _⟩ := hok b _ z
      obtain ⟨e2, _⟩ := hok' b _ (un.frzs b _ _ z)
      exact e2.trans (e1.symm.trans e)
theorem law_callD (KX : K.In s₁.heap) (hns : s₁.heap.Ns mainGlobals mg) (hsy : SysB s₁.heap) (hb : s₁.heap.Ns builtinsNs mb) (hbb : ∀ x : Str, x ≠ "__name__" → mb x = bootBuiltins x) (hlim : s₁.heap.NoLimit) (hg : s₁.gens = #[])
    (ha : s₁.heap.get? a = some { cls := .type "list", data := .seq vs.toArray }) (hi : IntsAre vs ns) (hl : ns.length ≤ 63) (hr : RoomG k callerA)
    (F : ∀ base : Heap, K.In base → base.Ns mainGlobals mg → SysB base → FnD P w K mg base k fa fd [x] spLaw) (hbind : ∀ (s : Shared) (u : Value), BindsTo s fd ⟨[u], []⟩ [(x, u)]) :
    codeAny (model P w) callerA (.call (.ref fa) ⟨[.ref a], []⟩) (fun r s' => r = .ok (.ret (.bool true)) ∧ OldK s₁.heap s'.heap ∧ s'.os = s₁.os ∧ AllBare s'.gens) s₁ := by
  have rv := vals_ints hi
  have hz : ns.length ≤ sizeLine := Nat.le_trans hl (by decide)
  have hvz : vs.toArray.size ≤ sizeLine := by rw [List.size_toArray, hi.length]; exact hz
  have nofz : Fz (fun _ => False) S00 a := ⟨rfl, fun z => let ⟨_, e, _⟩ := z; (nomatch (show (none : Option (Addr × Addr)) = some _ from e)), id⟩
  cases hk : K.lookup a with
  | some o =>
    have e := KX a o hk
    rw [ha] at e
    cases e
    exact law_callD1 KX hns hsy hb hbb hlim hg ha hl hr F hbind (H := fun _ => none) (.inl fun _ => rfl) (.inr ⟨_, vs.toArray, _, hk, rfl, rfl, rfl, hvz, by simpa using rv⟩) (fun b u z => nomatch (show (none : Option HO) = some u from z)) fun z => absurd rfl z
  | none =>
    refine law_callD1 KX hns hsy hb hbb hlim hg ha hl hr F hbind (H := scr a vs ns) (.inr fun _ => rfl) (.inl ⟨nofz, .inr ⟨_, if_pos rfl⟩⟩) (fun b u z => ?_) fun _ => hk
    by_cases hb' : b = a
    · cases (if_pos hb').symm.trans z
      subst hb'
      exact ⟨ha, by rw [List.length_map]; exact hz, vs, _, rv, ha⟩
    · exact nomatch (if_neg hb').symm.trans z
end
/-- what the head leaves -/
theorem walk_D {l : PySem.W.OpenLaw} {k : Nat} {q : Program} {loose : List Str} {XP : (Str → Option Value) → Heap → Prop} {YP : World → Heap → Prop} {d : DefRec} {K : Params → PySem.W.Frag} {x : Str}
    (hn : l.most = some 63) (hdf : d.params.defaults = []) (hr : RoomG k callerA) (hi : importsNone q = true) (hY : ∀ (w : World) (h : Heap), YP w h → (K w.params).In h)
    (F : ∀ (w : World) (mg : Str → Option Value) (fa : Addr) (h : Heap), (K w.params).In h → h.Ns mainGlobals mg → mg d.name = some (.ref fa) →
      ∃ fd : FuncData, (∀ (s : Shared) (u : Value), BindsTo s fd ⟨[u], []⟩ [(x, u)]) ∧ ∀ base : Heap, (K w.params).In base → base.Ns mainGlobals mg → SysB base → FnD l.prog w (K w.params) mg base k fa fd [x] spLaw) :
    PySem.W.WalkO q loose XP YP l.row.toRowW d [] (fun f vs => PySem.call f vs) :=
  Att.attach_call hn hdf fun w s₀ s₁ mg mb fa o pm cd doc a vs ns G Y ho hd hcd hmg hobj hints hlen hg =>
    let KX := hY w _ Y
    let ⟨_, hb, hF⟩ := F w mg fa _ KX G.T.g hmg
    law_callD KX G.T.g (let ⟨mm, h, _⟩ := (G.T.seer hi).mods; ⟨mm, h⟩) G.T.b G.T.builtins G.T.nolimit hg hobj hints hlen hr hF hb
end PD
end

section
/-! PD13: a tuple read from behind. -/
namespace PD
open PySem PySem.Spec PyProof.Rows L2

theorem adj_rev (n : Nat) : Builtin.Slice.sliceAdjust none none (-1) (n : Int) = ((n : Int) - 1, -1) := by
  unfold Builtin.Slice.sliceAdjust
  first
  | rfl
  | simp
theorem places_rev (n : Nat) : Builtin.Slice.slicePlaces ((n : Int) - 1) (-1) (-1) = n := by
  unfold Builtin.Slice.slicePlaces
  by_cases h : n = 0
  · subst h; decide
  · simp only [show ¬ ((-1 : Int) > 0) by decide, if_false]
    split <;> simp <;> omega
theorem pick_rev (xs : Array Value) : ((List.range xs.size).filterMap fun (m : Nat) => xs[(((xs.size : Int) - 1) + (m : Int) * (-1)).toNat]?).toArray = xs.toList.reverse.toArray := by
  congr 1
  have e : (List.range xs.size).filterMap (fun (m : Nat) => xs[(((xs.size : Int) - 1) + (m : Int) * (-1)).toNat]?) = ((List.range xs.size).map fun k => xs.size - 1 - k).filterMap (xs[·]?) := by
    rw [List.filterMap_map]
    have key : ∀ ks : List Nat, (∀ k ∈ ks, k < xs.size) → ks.filterMap (fun (m : Nat) => xs[(((xs.size : Int) - 1) + (m : Int) * (-1)).toNat]?) = ks.filterMap ((xs[·]?) ∘ fun k => xs.size - 1 - k) := by
      intro ks
      induction ks with
      | nil => intro _; rfl
      | cons k ks ih =>
        intro h
        have hk := h k List.mem_cons_self
        have e : (((xs.size : Int) - 1) + (k : Int) * (-1)).toNat = xs.size - 1 - k := by omega
        simp only [List.filterMap_cons, Function.comp, e]
        rw [ih fun j hj => h j (List.mem_cons_of_mem _ hj)]
    exact key _ fun k hk => List.mem_range.mp hk
  rw [e, PySem.W.krv_range, List.filterMap_reverse, PySem.W.krv_all]
section
variable {prog : Program} {w : World} {A : Around} {E : Value → Shared → Prop} {s : Shared}
theorem applied_rev {sl : Addr} {vl vu vs : Value} {n : Nat} {Q : Int × Int × Nat → Shared → Prop} (hs : s.heap.IsSliceOf sl vl vu vs) (pl : IsPart vl none) (pu : IsPart vu none) (ps : IsPart vs (some (-1)))
    (h : Q ((n : Int) - 1, -1, n) s) : wpAny (model prog w) A (Builtin.Slice.sliceApplied (.ref sl) (pure (n : Int))) Q E s := by
  obtain ⟨ob, ho, _, hf⟩ := id hs
  unfold Builtin.Slice.sliceApplied Builtin.Slice.sliceFields
  refine wpAny_bind (wpAny_bind (wpAny_field ho hf (x := vl) rfl (wpAny_bind (wpAny_field ho hf (x := vu) rfl (wpAny_bind (wpAny_field ho hf (x := vs) rfl (wpAny_pure (wpAny_bind (HT.slicePart_ ps ?_)))))))))
  show wpAny _ _ (if ((-1 : Int) == 0) = true then _ else _) _ _ s
  rw [if_neg (by decide)]
  refine wpAny_bind (HT.slicePart_ pl (wpAny_bind (HT.slicePart_ pu (wpAny_bind (wpAny_pure ?_)))))
  show wpAny _ _ (match Builtin.Slice.sliceAdjust none none (-1) (n : Int) with | (lo, hi) => pure (lo, (-1 : Int), Builtin.Slice.slicePlaces lo hi (-1))) _ _ s
  rw [adj_rev]
  show wpAny _ _ (pure ((n : Int) - 1, (-1 : Int), Builtin.Slice.slicePlaces ((n : Int) - 1) (-1) (-1))) _ _ s
  rw [places_rev]
  exact wpAny_pure h
theorem getRevT {t sl : Addr} {items : Array Value} {vl vu vs : Value} {Q : Value → Shared → Prop} (ht : IsTup s.heap t items) (hs : s.heap.IsSliceOf sl vl vu vs) (pl : IsPart vl none) (pu : IsPart vu none) (ps : IsPart vs (some (-1)))
    (h : Q (.ref s.heap.objs.size) { s with heap := s.heap.push { cls := .type "tuple", data := .seq items.toList.reverse.toArray } }) (hsz : items.size ≤ sizeLine) : wpAny (model prog w) A (getItem (.ref t) (.ref sl)) Q E s := by
  have hz : sizeOk (.seq items.toList.reverse.toArray) := by
    show items.toList.reverse.toArray.size ≤ sizeLine
    simpa using hsz
  obtain ⟨ob, ho, hc, hf⟩ := id hs
  unfold getItem
  try with_reducible refine wpAny_holding ?_
  first | refine wpAny_bind (wpAny_pure ?_) | skip
  refine wpAny_bind (wpAny_sequenceKey ht.typeIs (by decide) (wpAny_bind (wpAny_callSpecial?_slot (name := Str.ofString "__getitem__") ht.typeIs PyProof.Rows.slot_tuple_getitem (wpAny_call_entry PyProof.Rows.slot_tuple_getitem ht.typeIs PyProof.Rows.entry_tuple_getitem ?_ (PyProof.Rows.args_tuple_getitem _ _)))))
  show wpAny _ _ (Builtin.Tuple.tupleItemsOf (.ref t) >>= _) _ _ s
  refine wpAny_bind (tupleItemsOf_ ht (wpAny_bind (wpAny_typeOf ⟨ob, ho, hc⟩ ?_)))
  rw [if_pos (by decide)]
  refine wpAny_bind (applied_rev hs pl pu ps ?_)
  have no : ¬ ((((items.size : Int) - 1 == 0) && ((-1 : Int) == 1) && (items.size == items.size)) = true) := by simp
  show wpAny _ _ (if (((items.size : Int) - 1 == 0) && ((-1 : Int) == 1) && (items.size == items.size)) = true then _ else _) _ _ s
  rw [if_neg no, pick_rev]
  first
    | exact wpAny_bind (m := Builtin.Tuple.tupleExact _) (wpAny_newObj_type (wpAny_pure ⟨_, rfl, wpAny_pure h⟩) hz)
    | exact wpAny_bind (m := Builtin.Tuple.tupleExact _) (wpAny_newObj_type (wpAny_bind (wpAny_pure (wpAny_pure ⟨_, rfl, wpAny_pure h⟩))) hz)
    | exact wpAny_bind (wpAny_bind (m := Builtin.Tuple.tupleExact _) (wpAny_newObj_type (wpAny_pure (wpAny_pure ⟨_, rfl, wpAny_pure h⟩)) hz))
    | exact wpAny_bind (wpAny_bind (m := Builtin.Tuple.tupleExact _) (wpAny_newObj_type (wpAny_pure ⟨_, rfl, wpAny_pure h⟩) hz))
end
section
variable {X : Cx} {e : Expr} {ta : TED}
def tRevT (K : PySem.W.Frag) (te : TE) : TE := fun σ H Q => te σ H fun x H1 => ∃ a xs, x = .ref a ∧ SqT K H1 a xs ∧ ∀ p, H1 p = none → Q (.ref p) (upd H1 p (.tup xs.reverse))
theorem pe_revT {te : TE} {k : Nat} {p1 p2 p3 pos : Pos} (he : PE X e te) : PE X (.Subscript e (.Slice none none (some (.UnaryOp .USub (.Constant (.int 1) k p1) p2)) p3) pos) (tRevT X.K te) := by
  refine ⟨fun pins s σ H Q I h => Subscript_ (thn (he.run pins s σ H _ I h) fun v s1 ⟨x, H1, I1, r1, a, xs, ex, hx, q⟩ => ?_)⟩
  subst ex
  cases r1
  have hst : PO X (some (.UnaryOp .USub (.Constant (.int 1) k p1) p2)) (tPart (tUn (rU fun i => .int (-i)) (tC (.int 1)))) := po_some (pe_un un_neg pe_int)
  refine wpAny_Slice (thn (po_none.run pins s1 σ H1 (fun o G => o = none ∧ G = H1) I1 ⟨rfl, rfl⟩) fun vl s2 ⟨l, H2, I2, pl, el, e2⟩ => ?_)
  subst el e2
  refine thn (po_none.run pins s2 σ H2 (fun o G => o = none ∧ G = H2) I2 ⟨rfl, rfl⟩) fun vu s3 ⟨u, H3, I3, pu, eu, e3⟩ => ?_
  subst eu e3
  refine thn (hst.run pins s3 σ H3 (fun o G => o = some (-1) ∧ G = H3) I3 ⟨1, rfl, -1, rfl, rfl, rfl⟩) fun vs s4 ⟨o, H4, I4, ps, eo, e4⟩ => ?_
  subst eo e4
  have I5 : Inv X pins σ H4 { s4 with heap := s4.heap.push { cls := .type "slice", data := .fields #[vl, vu, vs] } } := I4.kept (t' := s4.toks) fun b ob q => Heap.get?_push_of_some _ q
  obtain ⟨its, r, ht, hz⟩ := I5.tuple hx
  have hlen := r.length
  show wpAny (model X.prog X.w) X.A (subscriptTail e (.Slice none none (some (.UnaryOp .USub (.Constant (.int 1) k p1) p2)) p3) (.ref a) (.ref s4.heap.objs.size)) (EP X pins σ Q) X.xe { s4 with heap := s4.heap.push { cls := .type "slice", data := .fields #[vl, vu, vs] } }
  refine tail_any (ops := [.ref a, .ref s4.heap.objs.size]) ht.typeIs PyProof.Rows.slot_tuple_getitem.lookup ?_ (by with_unfolding_all rfl)
  refine getRevT ht (Heap.IsSliceOf.new _ vl vu vs) pl pu ps ?_ (by rw [List.size_toArray]; omega)
  exact ⟨.ref _, _, I5.laid (t' := s4.toks) (o := .tup xs.reverse) (fun b ob q => Heap.get?_push_of_some _ q) (Nat.le_refl _) ⟨by rw [List.length_reverse]; exact hz, _, r.reverse, IsTup.new _ _⟩, rfl, q _ (I5.hok.fresh (Nat.le_refl _))⟩
/-- t[::-1] -/
def tRevTD (te : TED) : TED := fun σ S Q => te σ S fun d S1 => match d with
  | .tup xs => Q (.tup xs.reverse) S1
  | _ => False
theorem de_revT {k : Nat} {p1 p2 p3 pos : Pos} (he : DE X e ta) : DE X (.Subscript e (.Slice none none (some (.UnaryOp .USub (.Constant (.int 1) k p1) p2)) p3) pos) (tRevTD ta) :=
  (pe_revT he).imp fun σ H Q ⟨G, σd, S, Qd, rs, rh, t, p⟩ => ⟨G, σd, S, _, rs, rh, t, fun S1 d v H1 f1 rh1 q1 t1 => by
    cases q1 with
    | @tup a vs ds h r => exact ⟨a, vs, rfl, h.sq, fun q hq => (p.fl f1).newT rh1 r.rev t1 hq⟩
    | _ => exact t1.elim⟩
end
end PD
end

section
/-! PD14: tracked sums and products of lists; a def by the written part. -/
namespace PD
open PySem PySem.Spec PyProof.Rows L2
section
variable {X : Cx} {a b : Expr} {ta tb : TED} {pos : Pos}
/-- xs + ys, tracked -/
def rAddR : R2D := fun x y S Q => match asLst S x, asLst S y with
  | some xs, some ys => xs.length + ys.length ≤ sizeLine ∧ ∀ p, S.hp p = none → Q (.ref p) (S.set p (.lst (xs ++ ys)))
  | _, _ => False
theorem de_addR (ha : DE X a ta) (hb : DE X b tb) : DE X (.BinOp a .Add b pos) (tBin rAddR ta tb) := de_op op_catK (fun G S H d1 d2 v1 v2 Qd Q rh q1 q2 t p => by
  unfold rAddR at t
  split at t
  · rename_i xs ys e1 e2
    obtain ⟨a, vs, rfl, l1, r1⟩ := asLst_ok rh e1 q1
    obtain ⟨b, ws, rfl, l2, r2⟩ := asLst_ok rh e2 q2
    exact ⟨a, b, vs, ws, rfl, rfl, l1, l2, by rw [← r1.length, ← r2.length]; exact t.1, fun q hq => p.newR rh (r1.append r2) t.2 hq⟩
  · exact t.elim) ha hb
/-- xs * n, tracked -/
def rMulR : R2D := fun x y S Q => match asLst S x, y with
  | some xs, .int k => (0 ≤ k ∧ k < 2 ^ 60 ∧ xs.length * k.toNat ≤ sizeLine) ∧ ∀ p, S.hp p = none → Q (.ref p) (S.set p (.lst (List.replicate k.toNat xs).flatten))
  | _, _ => False
theorem de_mulR (ha : DE X a ta) (hb : DE X b tb) : DE X (.BinOp a .Mult b pos) (tBin rMulR ta tb) := de_op op_repK (fun G S H d1 d2 v1 v2 Qd Q rh q1 q2 t p => by
  unfold rMulR at t
  split at t
  · rename_i xs k e1
    obtain ⟨a, vs, rfl, l1, r1⟩ := asLst_ok rh e1 q1
    cases q2
    exact ⟨a, _, vs, rfl, rfl, l1, t.1.1, t.1.2.1, by rw [← r1.length]; exact t.1.2.2, fun q hq => p.newR rh (r1.flat _) t.2 hq⟩
  · exact t.elim) ha hb
end
/-- a def of the module, in the written part -/
structure DefOf (K : PySem.W.Frag) (mg : Str → Option Value) (x : Str) (st : Stmt) : Prop where
  ex : ∃ f fd, Fun K x x st f fd ∧ mg x = some (.ref f)
theorem defOf_mk {x : Str} {K : PySem.W.Frag} {h : Heap} {mg : Str → Option Value} (X : K.In h) (G : h.Ns mainGlobals mg) {st : Stmt} {f : Addr} {od an : Option Addr} {sl : Array (Option Value)} {oc kV dc pm cd ct : Value}
    (a : PySem.W.nsIn K mainGlobals x = some (some (.ref f))) (l : K.lookup f = some ⟨oc, od, .func (PySem.W.fnOf x x (defArgs st) (defBody st) (defScope st) .none kV dc pm an cd ct), sl⟩) (c : PySem.W.codeIn K cd x = true) (k : PySem.W.keepIn K (.ref f) = true) : DefOf K mg x st := ⟨⟨f, _, fun_mk (st := st) l c k, PySem.W.mg_of X G a⟩⟩
end PD
end

section
/-! PD15: readings by values: a set of rules for simp, loops by invariants, the helpers that draw. -/
namespace PD
open PySem PySem.Spec PyProof.Rows L2
section
variable {S : HD}
theorem nrm_non : nrm S .non = .non := rfl
theorem nrm_bl {b : Bool} : nrm S (.bl b) = .bl b := rfl
theorem nrm_int {b : Int} : nrm S (.int b) = .int b := rfl
theorem nrm_str {b : Str} : nrm S (.str b) = .str b := rfl
theorem nrm_tup {b : List D} : nrm S (.tup b) = .tup b := rfl
theorem nrm_lst {b : List D} : nrm S (.lst b) = .lst b := rfl
theorem nrm_dic {b : List (D × D)} : nrm S (.dic b) = .dic b := rfl
theorem nrm_ref {a : Addr} : nrm S (.ref a) = match S.hp a with
    | some (.lst xs) => .lst xs
    | _ => .ref a := rfl
end
theorem gt_z {x : Option D} {r : SD} : gt (x :: r) 0 = x := rfl
theorem gt_s {x : Option D} {r : SD} {n : Nat} : gt (x :: r) (n + 1) = gt r n := rfl
theorem st_z {x : Option D} {r : SD} {d : D} : st (x :: r) 0 d = some d :: r := rfl
theorem st_s {x : Option D} {r : SD} {n : Nat} {d : D} : st (x :: r) (n + 1) d = x :: st r n d := rfl
/-! ### comprehensions, loops by invariants -/
/-- the state stays: what the items give -/
theorem lcD_pure {g : TGD} {tt : TTD} {te : TED} {σ : SD} {keep : HD → Prop} {Q : List D → HD → Prop} (f : D → Option D) {S : HD} (hk : keep S) : ∀ (xs acc : List D),
    (∀ d ∈ xs, ∀ (Q1 : D → HD → Prop) (Q0 : HD → Prop), (match f d with | some y => Q1 y S | none => Q0 S) → g d σ S fun σ2 S2 => tt σ2 S2 fun b S3 => if b = true then te σ2 S3 Q1 else Q0 S3) →
    Q (acc ++ xs.filterMap f) S → lcD g tt te σ keep Q xs acc S
  | [], acc, _, q => ⟨hk, by simpa using q⟩
  | d :: r, acc, h, q => ⟨hk, h d List.mem_cons_self _ _ (by
      cases e : f d with
      | none => exact lcD_pure f hk r acc (fun d hd => h d (List.mem_cons_of_mem _ hd)) (by simpa [List.filterMap_cons, e] using q)
      | some y => exact lcD_pure f hk r (acc ++ [y]) (fun d hd => h d (List.mem_cons_of_mem _ hd)) (by simpa [List.filterMap_cons, e] using q))⟩
/-- by an invariant of what is made and the state -/
theorem lcD_inv {g : TGD} {tt : TTD} {te : TED} {σ : SD} {keep : HD → Prop} {Q : List D → HD → Prop} (I : Nat → List D → HD → Prop) {all : List D}
    (step : ∀ (i : Nat) (d : D) (acc : List D) (S : HD) (N : List D → HD → Prop), all[i]? = some d → I i acc S → (∀ acc S, I (i + 1) acc S → N acc S) → keep S ∧ g d σ S fun σ2 S2 => tt σ2 S2 fun b S3 => if b = true then te σ2 S3 (fun y S4 => N (acc ++ [y]) S4) else N acc S3)
    (stop : ∀ acc S, I all.length acc S → keep S ∧ Q acc S) : ∀ (xs : List D) (i : Nat) (acc : List D) (S : HD), xs = all.drop i → i ≤ all.length → I i acc S → lcD g tt te σ keep Q xs acc S
  | [], i, acc, S, e, hi, h => by
    have : i = all.length := by have := congrArg List.length e; simp at this; omega
    subst this
    exact stop acc S h
  | d :: r, i, acc, S, e, hi, h => by
    have hl : i < all.length := by
      apply Nat.lt_of_not_le
      intro q
      rw [List.drop_of_length_le q] at e
      cases e
    rw [List.drop_eq_getElem_cons hl] at e
    injection e with e1 e2
    exact step i d acc S (fun acc S => lcD g tt te σ keep Q r acc S) (by simp [hl, e1]) h fun acc S h => lcD_inv I step stop r (i + 1) acc S e2 hl h
theorem lcD_go {g : TGD} {tt : TTD} {te : TED} {σ : SD} {keep : HD → Prop} {Q : List D → HD → Prop} (I : Nat → List D → HD → Prop) {xs : List D} {S : HD} (h0 : I 0 [] S)
    (step : ∀ (i : Nat) (d : D) (acc : List D) (S : HD) (N : List D → HD → Prop), xs[i]? = some d → I i acc S → (∀ acc S, I (i + 1) acc S → N acc S) → keep S ∧ g d σ S fun σ2 S2 => tt σ2 S2 fun b S3 => if b = true then te σ2 S3 (fun y S4 => N (acc ++ [y]) S4) else N acc S3)
    (stop : ∀ acc S, I xs.length acc S → keep S ∧ Q acc S) : lcD g tt te σ keep Q xs [] S := lcD_inv I step stop xs 0 [] S rfl (Nat.zero_le _) h0
theorem loopD_inv {g : TGD} {tb : TSD} {E : EndsD} {keep : HD → Prop} (I : Nat → SD → HD → Prop) {all : List D}
    (step : ∀ (i : Nat) (d : D) (σ : SD) (S : HD) (N : SD → HD → Prop), all[i]? = some d → I i σ S → (∀ σ S, I (i + 1) σ S → N σ S) → keep S ∧ g d σ S fun σ2 S2 => tb { nx := N, ct := N, bk := E.nx, rt := E.rt, xr := E.xr } σ2 S2)
    (stop : ∀ σ S, I all.length σ S → keep S ∧ E.nx σ S) : ∀ (xs : List D) (i : Nat) (σ : SD) (S : HD), xs = all.drop i → i ≤ all.length → I i σ S → loopD g tb E keep xs σ S
  | [], i, σ, S, e, hi, h => by
    have : i = all.length := by have := congrArg List.length e; simp at this; omega
    subst this
    exact stop σ S h
  | d :: r, i, σ, S, e, hi, h => by
    have hl : i < all.length := by
      apply Nat.lt_of_not_le
      intro q
      rw [List.drop_of_length_le q] at e
      cases e
    rw [List.drop_eq_getElem_cons hl] at e
    injection e with e1 e2
    exact step i d σ S (loopD g tb E keep r) (by simp [hl, e1]) h fun σ S h => loopD_inv I step stop r (i + 1) σ S e2 hl h
theorem loopD_go {g : TGD} {tb : TSD} {E : EndsD} {keep : HD → Prop} (I : Nat → SD → HD → Prop) {xs : List D} {σ : SD} {S : HD} (h0 : I 0 σ S)
    (step : ∀ (i : Nat) (d : D) (σ : SD) (S : HD) (N : SD → HD → Prop), xs[i]? = some d → I i σ S → (∀ σ S, I (i + 1) σ S → N σ S) → keep S ∧ g d σ S fun σ2 S2 => tb { nx := N, ct := N, bk := E.nx, rt := E.rt, xr := E.xr } σ2 S2)
    (stop : ∀ σ S, I xs.length σ S → keep S ∧ E.nx σ S) : loopD g tb E keep xs σ S := loopD_inv I step stop xs 0 σ S rfl (Nat.zero_le _) h0
theorem rngD_get {lo : Int} {n i : Nat} {d : D} (h : (rngD lo n)[i]? = some d) : i < n ∧ d = .int (lo + i) := by
  unfold rngD at h
  rw [List.getElem?_map] at h
  by_cases hi : i < n
  · rw [List.getElem?_range hi] at h
    cases h
    exact ⟨hi, rfl⟩
  · rw [List.getElem?_eq_none (by simpa using hi)] at h
    cases h
theorem fin.here {Q : QD} {d : D} {S : HD} (q : Q d S) : fin Q d S := .le (.refl _) q
/-! ### one of the items -/
def spOne : SpD := fun ds S Q => ∃ x xs, ds = [.deck, x] ∧ asSeq S x = some xs ∧ xs ≠ [] ∧ xs.length ≤ 500000000 ∧ S.c < 1000000000000 ∧ ∀ d ∈ xs, Q d (S.tick 1)
theorem asSeq_tick {S : HD} {n : Nat} {x : D} : asSeq (S.tick n) x = asSeq S x := by cases x <;> rfl
theorem atI_nat {α : Type} {xs : List α} {r : Int} (h0 : 0 ≤ r) (h1 : r < xs.length) : ∃ d, atI xs r = some d ∧ d ∈ xs := by
  have h2 : r.toNat < xs.length := by omega
  refine ⟨xs[r.toNat], ?_, List.getElem_mem h2⟩
  unfold atI ixN
  rw [if_pos h0, if_pos h1]
  simp [h2]
end PD
end

section
/-! PD16: the helpers that draw. -/
local macro_rules | `(tactic| walk_at "rdx") => `(tactic| simp only [PD.pad, PD.gt_z, PD.gt_s, PD.st_z, PD.st_s, PD.sNextD, PD.sSeqD, PD.sBreakD, PD.sContD, PD.sDropD, PD.sRetD, PD.sRetND, PD.sIfD, PD.sNeverD, PD.sAsgD, PD.sPar2, PD.sPar3, PD.gNameD, PD.gNilD, PD.gConsD, PD.gTupD, PD.gSubD, PD.tNilD, PD.tConsD, PD.tTupD, PD.tLstV, PD.tLstR, PD.tBin, PD.tTst, PD.tAndD, PD.tOrD, PD.tNotD, PD.tIfD, PD.tAndV, PD.tOrV, PD.tNotV, PD.tUnD, PD.rNeg, PD.tCallD, PD.tSlot, PD.tCD, PD.tChainD, PD.rIsN, PD.rNotN, PD.isN, PD.rIsiD, PD.isiB, PD.Ty.name, PD.rCmpI, PD.fLt, PD.fLe, PD.fGt, PD.fGe, PD.rAddD, PD.rSubD, PD.rFdivD, PD.rModD, PD.rPowD, PD.rMulD, PD.rAddR, PD.rMulR, PD.asSeq, PD.asLst, PD.rLenD, PD.rTupleD, PD.rListV, PD.rListR, PD.rIntD, PD.rBoolD, PD.rAbsD, PD.rIxD, PD.oNone, PD.oSome, PD.tSlD, PD.rSlD, PD.tRevTD, PD.rEqD, PD.rNeD, PD.nrm, PD.iSeqD, PD.iRng1D, PD.iRng2D, PD.sForD, PD.tLcV, PD.tLcR, PD.tYesD, PD.wipeD, PD.tMethL, PD.rAppD, PD.isRefL, PD.tDicV, PD.rSetD, PD.rReprD, reduceIte, true_and, and_true, Bool.not_true, Bool.not_false, Bool.false_eq_true, List.length_cons, List.length_nil, List.set_cons_zero, List.set_cons_succ, PD.HD.set_same, PD.HD.tick_hp, PD.HD.tick_c, PD.HD.tick_dk, PD.HD.set_c, PD.HD.set_dk])
namespace PD
open PySem PySem.Spec PyProof.Rows
def rdDeck : TSD :=
  sRetD (tLstR (tConsD (tLcR (iSeqD (tSlD (tSlot 0) (oNone) (oSome (tCD (.int 63))))) (gNameD 1) (tYesD) (tCallD rAbsD (tConsD (tSlot 1) (tNilD))) [1]) (tConsD (tCD (.int 0)) (tNilD))))
def rdDraw : TSD :=
  sSeqD (sAsgD (tBin rAddD (tBin rIxD (tSlot 0) (tCD (.int 1))) (tCD (.int 1))) (gSubD (tSlot 0) (tCD (.int 1))))
  (sSeqD (sAsgD (tTupD (tConsD (tCD (.int 0)) (tConsD (tUnD rNeg (tCD (.int 1))) (tNilD)))) (gTupD 2 (gConsD (gNameD 2) (gConsD (gNameD 3) (gNilD)))))
  (sSeqD (sIfD (tTst (tBin (rCmpI fGt) (tCallD rLenD (tConsD (tBin rIxD (tSlot 0) (tCD (.int 0))) (tNilD))) (tCD (.int 0)))) (sSeqD (sAsgD (tBin rModD (tCallD rIntD (tConsD (tBin rIxD (tSlot 0) (tCD (.int 1))) (tNilD))) (tCallD rLenD (tConsD (tBin rIxD (tSlot 0) (tCD (.int 0))) (tNilD)))) (gNameD 3))
  (sAsgD (tBin rIxD (tBin rIxD (tSlot 0) (tCD (.int 0))) (tSlot 3)) (gNameD 2))) (sNextD))
  (sSeqD (sIfD (tTst (tBin (rCmpI fGe) (tSlot 2) (tBin rPowD (tCD (.int 10)) (tCD (.int 18))))) (sSeqD (sAsgD (tBin rFdivD (tCallD rIntD (tConsD (tSlot 2) (tNilD))) (tSlot 1)) (gSubD (tBin rIxD (tSlot 0) (tCD (.int 0))) (tSlot 3)))
  (sRetD (tBin rModD (tCallD rIntD (tConsD (tSlot 2) (tNilD))) (tSlot 1)))) (sNextD))
  (sSeqD (sAsgD (tBin rAddD (tBin rAddD (tBin rModD (tCallD rIntD (tConsD (tSlot 2) (tNilD))) (tCD (.int 2147483563))) (tBin rMulD (tCD (.int 8117)) (tBin rIxD (tSlot 0) (tCD (.int 1))))) (tCD (.int 3))) (gNameD 4))
  (sRetD (tBin rModD (tCallD rIntD (tConsD (tBin rModD (tCallD rIntD (tConsD (tBin rPowD (tSlot 4) (tCD (.int 5))) (tNilD))) (tCD (.int 2147483629))) (tNilD))) (tSlot 1)))))))
def rdOne (sp : SpD) : TSD :=
  sRetD (tBin rIxD (tSlot 1) (tCallD sp (tConsD (tSlot 0) (tConsD (tCallD rLenD (tConsD (tSlot 1) (tNilD))) (tNilD)))))
theorem atI20 {x y : D} : L2.atI [x, y] 0 = some x := rfl
theorem atI21 {x y : D} : L2.atI [x, y] 1 = some y := rfl
theorem ixN21 : L2.ixN (0 + 1 + 1) 1 = some 1 := rfl
/-- the end of a draw: a number, the deck as it was but for one cell -/
def drawn (a b : Addr) (k : Nat) (m : Int) : QD := fun d S1 => ∃ (r : Int) (cells' : List Int), d = .int r ∧ 0 ≤ r ∧ r < m ∧ S1.hp a = some (.lst [.ref b, .int ((k + 1 : Nat) : Int)]) ∧ S1.hp b = some (.lst (cells'.map D.int)) ∧ cells'.length ≤ 63 ∧ ∀ z ∈ cells', 0 ≤ z
/-- behind the choice of the cell -/
def rdTail : TSD :=
  (sSeqD (sIfD (tTst (tBin (rCmpI fGe) (tSlot 2) (tBin rPowD (tCD (.int 10)) (tCD (.int 18))))) (sSeqD (sAsgD (tBin rFdivD (tCallD rIntD (tConsD (tSlot 2) (tNilD))) (tSlot 1)) (gSubD (tBin rIxD (tSlot 0) (tCD (.int 0))) (tSlot 3)))
  (sRetD (tBin rModD (tCallD rIntD (tConsD (tSlot 2) (tNilD))) (tSlot 1)))) (sNextD))
  (sSeqD (sAsgD (tBin rAddD (tBin rAddD (tBin rModD (tCallD rIntD (tConsD (tSlot 2) (tNilD))) (tCD (.int 2147483563))) (tBin rMulD (tCD (.int 8117)) (tBin rIxD (tSlot 0) (tCD (.int 1))))) (tCD (.int 3))) (gNameD 4))
  (sRetD (tBin rModD (tCallD rIntD (tConsD (tBin rModD (tCallD rIntD (tConsD (tBin rPowD (tSlot 4) (tCD (.int 5))) (tNilD))) (tCD (.int 2147483629))) (tNilD))) (tSlot 1)))))
theorem tail_ok {S : HD} {a b : Addr} {cells : List Int} {k : Nat} {m c at_ : Int} (hab : a ≠ b) (hk : k < 1000000000000) (hl : cells.length ≤ 63) (h0 : ∀ z ∈ cells, 0 ≤ z) (h1 : 1 ≤ m) (h2 : m ≤ 500000000) (hc0 : 0 ≤ c)
    (ha : S.hp a = some (.lst [.ref b, .int ((k + 1 : Nat) : Int)])) (hb : S.hp b = some (.lst (cells.map D.int))) (hat : c = 0 ∨ (0 ≤ at_ ∧ at_ < cells.length)) {bk ct nx : SD → HD → Prop} :
    rdTail { nx := nx, rt := drawn a b k m, bk := bk, ct := ct } [some (.ref a), some (.int m), some (.int c), some (.int at_), none] S := by
  unfold rdTail
  have hba : b ≠ a := fun e => hab e.symm
  walk_at "rdx"
  refine ⟨⟨by decide, by decide, by decide⟩, ?_⟩
  by_cases hc : (10 : Int) ^ (18 : Int).toNat ≤ c
  · have hc' : (1000000000000000000 : Int) ≤ c := hc
    rcases hat with e | ⟨h3, h4⟩
    · omega
    have hix : L2.ixN cells.length at_ = some at_.toNat := by unfold L2.ixN; rw [if_pos h3, if_pos h4]
    simp only [hc, decide_true, if_true]
    refine ⟨⟨by omega, by omega⟩, ?_⟩
    simp only [ha, hb, atI20, List.length_map, hix]
    refine ⟨by omega, c % m, cells.set at_.toNat (c / m), rfl, Int.emod_nonneg _ (by omega), Int.emod_lt_of_pos _ (by omega), ?_, ?_, ?_, ?_⟩
    · rw [HD.set_ne hab]; exact ha
    · rw [HD.set_same, List.map_set]
    · rw [List.length_set]; exact hl
    · intro z hz
      rcases List.mem_or_eq_of_mem_set hz with h | h
      · exact h0 z h
      · subst h; exact Int.ediv_nonneg (by omega) (by omega)
  · simp only [hc, decide_false, Bool.false_eq_true, if_false]
    simp only [ha, atI21]
    have e1 := Int.emod_nonneg c (b := 2147483563) (by decide)
    have e2 := Int.emod_lt_of_pos c (b := 2147483563) (by decide)
    refine ⟨by decide, ?_, ?_⟩
    · left
      decide
    refine ⟨⟨by decide, by decide, ?_⟩, by decide, by omega, _, cells, rfl, Int.emod_nonneg _ (by omega), Int.emod_lt_of_pos _ (by omega), ha, hb, hl, h0⟩
    omega
theorem drawOk : DrawOk rdDraw 5 := by
  intro S a b cells k m hab hk hl h0 h1 h2
  have hba : b ≠ a := fun e => hab e.symm
  have ha : (openD S a b cells k).hp a = some (.lst [.ref b, .int (k : Int)]) := if_pos rfl
  have hb : (openD S a b cells k).hp b = some (.lst (cells.map D.int)) := (if_neg hba).trans (if_pos rfl)
  show rdDraw { nx := fun _ _ => False, rt := drawn a b k m } (pad 5 [.ref a, .int m]) (openD S a b cells k)
  generalize openD S a b cells k = S0 at ha hb
  unfold rdDraw
  rw [show (sSeqD (sIfD (tTst (tBin (rCmpI fGe) (tSlot 2) (tBin rPowD (tCD (.int 10)) (tCD (.int 18))))) _ _) _) = rdTail from rfl]
  generalize hT : rdTail = T
  walk_at "rdx"
  simp only [ha, atI21]
  walk_at "rdx"
  simp only [ha, ixN21]
  walk_at "rdx"
  have ha' : (S0.set a (.lst [.ref b, .int ((k : Int) + 1)])).hp a = some (.lst [.ref b, .int ((k + 1 : Nat) : Int)]) := HD.set_same
  have hb' : (S0.set a (.lst [.ref b, .int ((k : Int) + 1)])).hp b = some (.lst (cells.map D.int)) := (HD.set_ne hba).trans hb
  generalize (S0.set a (.lst [.ref b, .int ((k : Int) + 1)])) = S1 at ha' hb'
  refine ⟨by decide, ?_⟩
  simp only [atI20, ha', hb', List.length_map]
  cases cells with
  | nil =>
    simp only [List.length_nil, Int.natCast_zero, Int.lt_irrefl, decide_false, Bool.false_eq_true, if_false]
    subst hT
    exact tail_ok hab hk hl h0 h1 h2 (Int.le_refl 0) ha' hb' (.inl rfl)
  | cons z0 zs =>
    have hpos : (0 : Int) < (((z0 :: zs).length : Nat) : Int) := by simp only [List.length_cons]; omega
    simp only [hpos, decide_true, if_true, atI21, true_and]
    walk_at "rdx"
    generalize hr : ((k : Int) + 1) % ((zs.length + 1 : Nat) : Int) = r
    have e1 : 0 ≤ r := by rw [← hr]; exact Int.emod_nonneg _ (by omega)
    have e2 : r < (((z0 :: zs).length : Nat) : Int) := by rw [← hr, List.length_cons]; exact Int.emod_lt_of_pos _ (by omega)
    obtain ⟨z, hz, hm⟩ := atI_nat (xs := z0 :: zs) e1 e2
    have hz' : L2.atI ((z0 :: zs).map D.int) r = some (.int z) := by
      unfold L2.atI at hz ⊢
      rw [List.length_map]
      cases q : L2.ixN (z0 :: zs).length r with
      | none => rw [q] at hz; cases hz
      | some j =>
        rw [q] at hz
        show ((z0 :: zs).map D.int)[j]? = _
        rw [List.getElem?_map]
        rw [show (z0 :: zs)[j]? = some z from hz]
        rfl
    rw [hz']
    subst hT
    exact tail_ok hab hk hl h0 h1 h2 (h0 z hm) ha' hb' (.inr ⟨e1, e2⟩)
theorem rngCut {xs : List Int} : cutD (xs.map D.int) none (some 63) = (xs.take 63).map D.int := by
  unfold cutD
  simp only [List.length_map, HT.sIx_none, List.drop_zero, Nat.sub_zero]
  rw [show ((some 63 : Option Int)) = some ((63 : Nat) : Int) from rfl, HT.sIx_nat, List.map_take]
  by_cases h : xs.length ≤ 63
  · rw [Nat.min_eq_right h, List.take_of_length_le (by simp), List.take_of_length_le (by simpa using h)]
  · rw [Nat.min_eq_left (by omega)]
theorem deckOk : DeckOk rdDeck 2 := by
  intro S ns hd
  unfold rdDeck
  walk_at "rdx"
  rw [rngCut]
  have h63 : (ns.take 63).length ≤ 63 := by rw [List.length_take]; omega
  generalize ns.take 63 = ms at h63
  intro hz
  refine ⟨hz, ?_⟩
  refine lcD_go (fun i acc S' => S' = S ∧ acc = (ms.take i).map fun z => D.int (if z < 0 then -z else z)) ⟨rfl, rfl⟩ (fun i d acc S' N hi ⟨e, ea⟩ k => ?_) fun acc S' ⟨e, ea⟩ => ?_
  · subst e
    rw [List.getElem?_map] at hi
    obtain ⟨z, hz, e2⟩ := Option.map_eq_some_iff.mp hi
    subst e2
    walk_at "rdx"
    refine k _ _ ⟨rfl, ?_⟩
    rw [ea, List.take_add_one, hz]
    simp
  · subst e ea
    refine ⟨trivial, fun b hb => ⟨by decide, fun a ha => ?_⟩⟩
    have hab : a ≠ b := fun e => by
      subst e
      rw [HD.set_same] at ha
      cases ha
    have hba : b ≠ a := fun e => hab e.symm
    rw [HD.set_ne hab] at ha
    refine ⟨a, b, ms.map fun z => if z < 0 then -z else z, rfl, hab, ha, hb, HD.set_same, ?_, ?_, ?_, ?_, hd⟩
    · rw [HD.set_ne hba, HD.set_same, List.take_of_length_le (by simp), List.map_map]
      rfl
    · simpa using h63
    · intro z hz
      obtain ⟨y, _, rfl⟩ := List.mem_map.mp hz
      by_cases h : y < 0
      · rw [if_pos h]; omega
      · rw [if_neg h]; omega
    · intro x o hx
      rw [HD.set_ne (fun e => by rw [e, ha] at hx; cases hx), HD.set_ne (fun e => by rw [e, hb] at hx; cases hx)]
      exact hx
theorem spOne_len (ds : List D) (S : HD) (Q : QD) (h : spOne ds S Q) : ds.length = 2 := by
  obtain ⟨x, xs, rfl, _⟩ := h
  rfl
theorem oneOk {E : EndsD} (ds : List D) (S : HD) (Q : QD) (h : spOne ds S Q) (hE : ∀ d S, Q d S → E.rt d S) : rdOne spDraw E (pad 2 ds) S := by
  obtain ⟨x, xs, rfl, hx, hne, hl, hc, q⟩ := h
  unfold rdOne
  have hpos : 1 ≤ xs.length := by cases xs with
    | nil => exact (hne rfl).elim
    | cons _ _ => simp
  have key : spDraw [.deck, .int xs.length] S fun d S1 => ∀ y, asSeq S1 x = some y → (match d with
    | .int i => (match L2.atI y i with
      | some d => E.rt d S1
      | none => False)
    | _ => False) := by
    refine ⟨⟨by omega, by omega, hc⟩, fun r h0 h1 => fun y hy => ?_⟩
    rw [asSeq_tick, hx] at hy
    cases hy
    obtain ⟨d, e, m⟩ := atI_nat h0 h1
    simp only [e]
    exact hE _ _ (q d m)
  have mono : ∀ (ds : List D) (S : HD) (Q Q' : QD), (∀ d S, Q d S → Q' d S) → spDraw ds S Q → spDraw ds S Q' := by
    intro ds S Q Q' i h
    unfold spDraw at h ⊢
    split at h
    · exact ⟨h.1, fun r h0 h1 => i _ _ (h.2 r h0 h1)⟩
    · exact h.elim
  cases x with
  | tup ys =>
    cases hx
    walk_at "rdx"
    refine mono _ _ _ _ (fun d S1 h => ?_) key
    have h := h _ rfl
    cases d <;> first | exact h | exact h.elim
  | lst ys =>
    cases hx
    walk_at "rdx"
    refine mono _ _ _ _ (fun d S1 h => ?_) key
    have h := h _ rfl
    cases d <;> first | exact h | exact h.elim
  | ref a =>
    have hx' := hx
    simp only [asSeq] at hx'
    split at hx'
    · rename_i ys e
      cases hx'
      walk_at "rdx"
      simp only [e]
      refine ⟨⟨by omega, by omega, hc⟩, fun r h0 h1 => ?_⟩
      obtain ⟨d, e2, m⟩ := atI_nat h0 h1
      simp only [HD.tick_hp, e, e2]
      exact hE _ _ (q d m)
    · cases hx'
  | _ => cases hx
end PD
end

section
/-! PD17: comparisons and classes of plain data. -/
namespace PD
open PySem PySem.Spec PyProof.Rows
theorem eqk_int {i j : Int} : eqk (.int i) (.int j) = true := by simp [eqk]
theorem eqd_int {i j : Int} : eqd (.int i) (.int j) = decide (i = j) := by
  unfold eqd
  simp only [py]
  first
  | rfl
  | (simp [PyData.eqv]; done)
  | (unfold PyData.eqv; simp)
theorem eqk_str {i j : Str} : eqk (.str i) (.str j) = true := by simp [eqk]
theorem eqd_str {i j : Str} : eqd (.str i) (.str j) = decide (i = j) := by
  unfold eqd
  simp only [py]
  first
  | rfl
  | (simp [PyData.eqv]; done)
  | (unfold PyData.eqv; simp)
theorem eqk_lst0 {xs : List D} : eqk (.lst xs) (.lst []) = true := by simp [eqk]
theorem eqd_lst0 {xs : List D} : eqd (.lst xs) (.lst []) = xs.isEmpty := by
  unfold eqd
  simp only [py, pyL]
  unfold PyData.eqv
  simp only [eqv_nilL, eqv_nilR, pyL_isEmpty]
theorem eqk_tup0 {xs : List D} : eqk (.tup xs) (.tup []) = true := by simp [eqk]
theorem eqd_tup0 {xs : List D} : eqd (.tup xs) (.tup []) = xs.isEmpty := by
  unfold eqd
  simp only [py, pyL]
  unfold PyData.eqv
  simp only [eqv_nilL, eqv_nilR, pyL_isEmpty]
theorem okRL_mem {x : D} : ∀ {xs : List D}, okRL xs = true → x ∈ xs → okR x = true
  | [], _, m => by cases m
  | y :: ys, h, m => by
    simp only [okRL, Bool.and_eq_true] at h
    rcases List.mem_cons.mp m with e | e
    · subst e; exact h.1
    · exact okRL_mem h.2 e
theorem okRL_of : ∀ {xs : List D}, (∀ x ∈ xs, okR x = true) → okRL xs = true
  | [], _ => rfl
  | y :: ys, h => by
    simp only [okRL, Bool.and_eq_true]
    exact ⟨h y List.mem_cons_self, okRL_of fun x m => h x (List.mem_cons_of_mem _ m)⟩
theorem depL_le {x : D} : ∀ {xs : List D}, x ∈ xs → dep x ≤ depL xs
  | [], m => by cases m
  | y :: ys, m => by
    simp only [depL]
    rcases List.mem_cons.mp m with e | e
    · subst e; omega
    · have := depL_le e; omega
theorem depL_of {n : Nat} : ∀ {xs : List D}, (∀ x ∈ xs, dep x ≤ n) → depL xs ≤ n
  | [], _ => Nat.zero_le _
  | y :: ys, h => by
    have h1 := h y List.mem_cons_self
    have h2 := depL_of (xs := ys) fun x m => h x (List.mem_cons_of_mem _ m)
    simp only [depL]
    omega
theorem szL_of {n : Nat} : ∀ {xs : List D}, (∀ x ∈ xs, sz x ≤ n) → szL xs ≤ xs.length * (n + 2)
  | [], _ => by simp [szL]
  | y :: ys, h => by
    have h1 := h y List.mem_cons_self
    have h2 := szL_of (xs := ys) fun x m => h x (List.mem_cons_of_mem _ m)
    simp only [szL, List.length_cons, Nat.add_mul, Nat.one_mul]
    omega
theorem szL_mem {x : D} : ∀ {xs : List D}, x ∈ xs → sz x ≤ szL xs
  | [], m => by cases m
  | y :: ys, m => by
    simp only [szL]
    rcases List.mem_cons.mp m with e | e
    · subst e; omega
    · have := szL_mem e; omega
theorem szL_app : ∀ {xs ys : List D}, szL (xs ++ ys) = szL xs + szL ys
  | [], ys => by simp [szL]
  | x :: xs, ys => by simp only [List.cons_append, szL, szL_app (xs := xs)]; omega
theorem empty_filter {α : Type} (p : α → Bool) : ∀ xs : List α, (xs.filterMap fun d => if p d = true then some d else none).isEmpty = xs.all fun d => !p d
  | [] => rfl
  | x :: xs => by
    rw [List.filterMap_cons, List.all_cons, ← empty_filter p xs]
    cases h : p x <;> simp [h]
/-- what a def computes, nothing changed -/
def spFn (f : List D → Option D) : SpD := fun ds S Q => match f ds with
  | some r => Q r S
  | none => False
/-- of a built-in class -/
def isT (t : Ty) (d : D) : Bool := (isiB ⟨fun _ => none, 0, none⟩ t d).getD false
theorem isT_ok {S : HD} {t : Ty} {d : D} (h : okR d = true) : isiB S t d = some (isT t d) := by
  cases d <;> first | rfl | cases h
theorem isT_tup {d : D} (h : isT .tuple d = true) : ∃ xs, d = .tup xs := by
  cases d <;> first | exact ⟨_, rfl⟩ | cases h
section
variable {S : HD} {t : Ty}
theorem isi_non : isiB S t .non = some false := by cases t <;> rfl
theorem isi_bl {b : Bool} : isiB S t (.bl b) = some (match t with | .int => true | .bool => true | _ => false) := rfl
theorem isi_int {b : Int} : isiB S t (.int b) = some (match t with | .int => true | _ => false) := rfl
theorem isi_str {b : Str} : isiB S t (.str b) = some (match t with | .str => true | _ => false) := rfl
theorem isi_tup {b : List D} : isiB S t (.tup b) = some (match t with | .tuple => true | _ => false) := rfl
theorem isi_lst {b : List D} : isiB S t (.lst b) = some (match t with | .list => true | _ => false) := rfl
theorem isi_dic {b : List (D × D)} : isiB S t (.dic b) = some (match t with | .dict => true | _ => false) := rfl
end
/-- a later state of a def's run: what was tracked stands, no more than n draws -/
structure Up (n : Nat) (S S' : HD) : Prop where
  hp : ∀ a o, S.hp a = some o → S'.hp a = some o
  c : S'.c ≤ S.c + n
  dk : S'.dk = S.dk
theorem Up.refl (S : HD) : Up 0 S S := ⟨fun _ _ h => h, Nat.le_refl _, rfl⟩
theorem Up.le {n : Nat} {S S' : HD} (h : Up n S S') : HLe (S.tick n) S' := ⟨h.hp, h.c, h.dk.symm⟩
theorem Up.mono {n m : Nat} {S S' : HD} (h : Up n S S') (l : n ≤ m) : Up m S S' := ⟨h.hp, by have := h.c; omega, h.dk⟩
theorem Up.tick {n k : Nat} {S S' : HD} (h : Up n S S') : Up (n + k) S (S'.tick k) := ⟨h.hp, by have := h.c; simp only [HD.tick_c]; omega, h.dk⟩
theorem Up.set {n : Nat} {S S' : HD} {p : Addr} {o : OD} (h : Up n S S') (hp : S.hp p = none) : Up n S (S'.set p o) :=
  ⟨fun a u e => by rw [HD.set_ne fun z => by rw [z, hp] at e; cases e]; exact h.hp a u e, h.c, h.dk⟩
theorem Up.none {n : Nat} {S S' : HD} {p : Addr} (h : Up n S S') (hp : S'.hp p = none) : S.hp p = none := by
  cases e : S.hp p with
  | none => rfl
  | some o => rw [h.hp p o e] at hp; cases hp
theorem Up.new {n : Nat} {S S' : HD} {p : Addr} {o : OD} (h : Up n S S') (hp : S'.hp p = Option.none) : Up n S (S'.set p o) := h.set (h.none hp)
theorem Up.fin {n : Nat} {S S' : HD} {Q : QD} {d : D} (h : Up n S S') (q : Q d (S.tick n)) : PD.fin Q d S' := fin.le h.le q
theorem Up.trans {n m : Nat} {S S1 S2 : HD} (a : Up n S S1) (b : Up m S1 S2) : Up (n + m) S S2 := ⟨fun x o h => b.hp x o (a.hp x o h), by have := a.c; have := b.c; omega, b.dk.trans a.dk⟩
theorem lst_nodup {i n : Nat} {d : D} {xs : List D} (h : xs[i]? = some d) : d ∈ xs := List.mem_of_getElem? h
/-- all ends of a def's body are these two -/
abbrev ends (Q : QD) : EndsD := { nx := fun _ S2 => fin Q .non S2, rt := fin Q, bk := fun _ _ => False, ct := fun _ _ => False }
end PD
end

section
/-! PD18: slices of plain data, sizes of parts. -/
namespace PD
open PySem PySem.Spec PyProof.Rows
/-- one statement, the rest held back -/
theorem seq_step {t u : TSD} {E : EndsD} {σ : SD} {S : HD} (h : ∀ N : SD → HD → Prop, (∀ σ S, u E σ S → N σ S) → t { E with nx := N } σ S) : sSeqD t u E σ S := h (u E) fun _ _ h => h
theorem cut_pre (xs : List D) (a : Nat) : cutD xs none (some (a : Int)) = xs.take a := by
  unfold cutD
  rw [HT.sIx_none, HT.sIx_nat, List.drop_zero, Nat.sub_zero]
  by_cases h : a ≤ xs.length
  · rw [Nat.min_eq_left h]
  · rw [Nat.min_eq_right (by omega), List.take_of_length_le (Nat.le_refl _), List.take_of_length_le (by omega)]
theorem cut_last (xs : List D) : cutD xs none (some (-1)) = xs.take (xs.length - 1) := by
  unfold cutD
  rw [HT.sIx_none, List.drop_zero, Nat.sub_zero]
  have e : HT.sIx xs.length xs.length (some (-1)) = xs.length - 1 := by
    unfold HT.sIx
    simp only [show ((-1 : Int) < 0) by decide, if_true]
    omega
  rw [e]
theorem nrm_ok' {S : HD} {v : D} (h : okR v = true) : nrm S v = v := by
  cases v <;> first | rfl | cases h
theorem cut_suf (xs : List D) (a : Nat) : cutD xs (some (a : Int)) none = xs.drop a := by
  unfold cutD
  rw [HT.sIx_none, HT.sIx_nat]
  by_cases h : a ≤ xs.length
  · rw [Nat.min_eq_left h, List.take_of_length_le (by rw [List.length_drop]; exact Nat.le_refl _)]
  · rw [Nat.min_eq_right (by omega), Nat.sub_self, List.take_zero, List.drop_of_length_le (by omega)]
theorem cut_mid (xs : List D) (a b : Nat) (h : a ≤ b) : cutD xs (some (a : Int)) (some (b : Int)) = (xs.take b).drop a := by
  unfold cutD
  rw [HT.sIx_nat, HT.sIx_nat, List.drop_take]
  by_cases h1 : b ≤ xs.length
  · rw [Nat.min_eq_left h1, Nat.min_eq_left (by omega)]
  · rw [Nat.min_eq_right (a := b) (by omega)]
    by_cases h2 : a ≤ xs.length
    · rw [Nat.min_eq_left h2, List.take_of_length_le (by rw [List.length_drop]; exact Nat.le_refl _), List.take_of_length_le (by rw [List.length_drop]; omega)]
    · rw [Nat.min_eq_right (a := a) (by omega), Nat.sub_self, List.take_zero, List.drop_of_length_le (by omega), List.take_nil]
theorem szL_parts (xs : List D) (a : Nat) : szL (xs.take a) + szL (xs.drop a) = szL xs := by
  rw [← szL_app, List.take_append_drop]
theorem szL_len : ∀ xs : List D, 2 * xs.length ≤ szL xs
  | [] => Nat.le_refl _
  | x :: xs => by
    have := szL_len xs
    simp only [List.length_cons, szL]
    omega
theorem okRL_app {xs ys : List D} (h1 : okRL xs = true) (h2 : okRL ys = true) : okRL (xs ++ ys) = true :=
  okRL_of fun x hx => (List.mem_append.mp hx).elim (okRL_mem h1) (okRL_mem h2)
theorem okRL_sub {xs ys : List D} (h1 : okRL xs = true) (h : ∀ y ∈ ys, y ∈ xs) : okRL ys = true := okRL_of fun x hx => okRL_mem h1 (h x hx)
theorem depL_sub {xs ys : List D} (h : ∀ y ∈ ys, y ∈ xs) : depL ys ≤ depL xs := depL_of fun x hx => depL_le (h x hx)
theorem depL_app {xs ys : List D} : depL (xs ++ ys) = max (depL xs) (depL ys) := by
  induction xs with
  | nil => simp [depL]
  | cons x xs ih => simp only [List.cons_append, depL, ih]; omega
theorem szL_take (xs : List D) (a : Nat) : szL (xs.take a) ≤ szL xs := by have := szL_parts xs a; omega
theorem szL_drop (xs : List D) (a : Nat) : szL (xs.drop a) ≤ szL xs := by have := szL_parts xs a; omega
theorem szL_split {xs : List D} {a : Nat} {d : D} (h : xs[a]? = some d) : szL (xs.take a) + (sz d + 2) + szL (xs.drop (a + 1)) = szL xs := by
  obtain ⟨hl, rfl⟩ := List.getElem?_eq_some_iff.mp h
  have e := szL_parts xs a
  rw [List.drop_eq_getElem_cons hl] at e
  simp only [szL] at e
  omega
theorem atI_get {xs : List D} {a : Nat} (h : a < xs.length) : L2.atI xs (a : Int) = some xs[a] := by
  unfold L2.atI L2.ixN
  rw [if_pos (by omega), if_pos (by omega)]
  simp [h]
end PD
end

section
/-! PD19: enumerate and zip over lists, tuples and texts alike. -/
namespace PD
open PySem PySem.Spec PyProof.Rows L2
inductive SK where | lst | tup | str
def signs (z : Str) : List V := z.cps.toList.map fun c => .str ⟨#[c]⟩
/-- what is walked: v has the items xs -/
def SrcV (K : PySem.W.Frag) (H : Hp) : SK → V → List V → Prop
  | .lst, v, xs => ∃ a, v = .ref a ∧ SqL K H a xs
  | .tup, v, xs => ∃ a, v = .ref a ∧ SqT K H a xs
  | .str, v, xs => ∃ z, v = .str z ∧ xs = signs z
/-- its iterator stands at i -/
def ItSt : SK → Value → Addr → Nat → Heap → Prop
  | .lst, u, it, i, h => ∃ a, u = .ref a ∧ h.IsListIter it a i
  | .tup, u, it, i, h => ∃ a, u = .ref a ∧ h.IsTupleIter it a i
  | .str, u, it, i, h => ∃ z t, u = .str z t ∧ h.IsStrIter it (strIterType z) z t i
theorem ItSt.obj {k : SK} {u : Value} {it : Addr} {i : Nat} {h : Heap} (st : ItSt k u it i h) : ∃ o vs, h.get? it = some o ∧ o.data = .fields vs := by
  cases k with
  | lst => obtain ⟨_, _, o, e, _, d⟩ := st; exact ⟨o, _, e, d⟩
  | tup => obtain ⟨_, _, o, e, _, d⟩ := st; exact ⟨o, _, e, d⟩
  | str => obtain ⟨_, _, _, o, e, _, d⟩ := st; exact ⟨o, _, e, d⟩
theorem ItSt.move {k : SK} {u : Value} {it : Addr} {i : Nat} {h h' : Heap} (st : ItSt k u it i h) (hk : ∀ o, h.get? it = some o → h'.get? it = some o) : ItSt k u it i h' := by
  cases k with
  | lst => obtain ⟨a, q, o, e, r⟩ := st; exact ⟨a, q, o, hk o e, r⟩
  | tup => obtain ⟨a, q, o, e, r⟩ := st; exact ⟨a, q, o, hk o e, r⟩
  | str => obtain ⟨z, t, q, o, e, r⟩ := st; exact ⟨z, t, q, o, hk o e, r⟩
theorem vals_getR : ∀ {xs : List V} {us : List Value} {j : Nat} {y : Value}, Vals xs us → us[j]? = some y → ∃ x, xs[j]? = some x ∧ RelV x y
  | _, _, _, _, .nil, h => by simp at h
  | _, _, 0, y, .cons r _, h => by
    simp at h
    subst h
    exact ⟨_, rfl, r⟩
  | _, _, j + 1, y, .cons _ rs, h => by
    obtain ⟨x, h1, h2⟩ := vals_getR (j := j) rs (by simpa using h)
    exact ⟨x, by simpa using h1, h2⟩
def Below (u : Value) (N : Nat) : Prop := ∀ a, u = .ref a → a < N
section
variable {X : Cx} {pins : List (Addr × Obj)} {σ : L2.St} {H : Hp} {s : Shared}
theorem srcV_inj (I : Inv X pins σ H s) {k : SK} {v : V} {xs ys : List V} (h : SrcV X.K H k v xs) (h' : SrcV X.K H k v ys) : xs = ys := by
  cases k with
  | lst => obtain ⟨a, rfl, h⟩ := h; obtain ⟨b, e, h'⟩ := h'; cases e; exact I.list_inj h h'
  | tup => obtain ⟨a, rfl, h⟩ := h; obtain ⟨b, e, h'⟩ := h'; cases e; exact I.tuple_inj h h'
  | str => obtain ⟨a, rfl, rfl⟩ := h; obtain ⟨b, e, rfl⟩ := h'; cases e; rfl
theorem signs_get {z : Str} {j c : Nat} (h : z.cps[j]? = some c) : (signs z)[j]? = some (.str ⟨#[c]⟩) := by
  unfold signs
  rw [List.getElem?_map, Array.getElem?_toList, h]
  rfl
theorem signs_len (z : Str) : (signs z).length = z.cps.size := by simp [signs]
theorem srcV_draws (I : Inv X pins σ H s) {A : Around} (hh : A.handled = none) {k : SK} {v : V} {xs : List V} {u : Value} {it : Addr} {i : Nat} (hq : SrcV X.K H k v xs) (hv : RelV v u) (hit : ItSt k u it i s.heap) :
    ∃ (rest : List Addr) (Pp : Nat → Value → Prop) (St : Nat → Heap → Prop), Draws X.prog X.w A it (it :: rest) xs.length Pp St ∧ St i s.heap ∧ (∀ j y, Pp j y → ∃ x, xs[j]? = some x ∧ RelV x y) ∧ (∀ j h, St j h → ItSt k u it j h) ∧ ∀ b ∈ rest, u = .ref b := by
  cases k with
  | lst =>
    obtain ⟨a, rfl, hq⟩ := hq
    obtain rfl : u = Value.ref a := hv
    obtain ⟨its, r, p, z⟩ := I.list hq
    obtain ⟨_, e, hit⟩ := hit
    cases e
    have ne : a ≠ it := fun e => by
      obtain ⟨o, n, e1, _, _, d1⟩ := id p
      obtain ⟨o2, e2, _, d2⟩ := hit
      rw [e, e2] at e1
      cases e1
      rw [d1] at d2
      cases d2
    have en : its.toArray.size = xs.length := by rw [List.size_toArray]; exact r.length.symm
    have D := Draws.list (prog := X.prog) (w := X.w) hh it a ne its.toArray
    rw [en] at D
    exact ⟨[a], _, _, D, ⟨hit, p.isList⟩, fun j y hy => vals_getR r (by simpa using hy), fun j h st => ⟨a, rfl, st.1⟩, fun b hb => by rw [List.mem_singleton.mp hb]⟩
  | tup =>
    obtain ⟨a, rfl, hq⟩ := hq
    obtain rfl : u = Value.ref a := hv
    obtain ⟨its, r, p, z⟩ := I.tuple hq
    obtain ⟨_, e, hit⟩ := hit
    cases e
    have ne : a ≠ it := fun e => by
      obtain ⟨o, e1, _, n, d1⟩ := id p
      obtain ⟨o2, e2, _, d2⟩ := hit
      rw [e, e2] at e1
      cases e1
      rw [d1] at d2
      cases d2
    have en : its.toArray.size = xs.length := by rw [List.size_toArray]; exact r.length.symm
    have D := Draws.tuple (prog := X.prog) (w := X.w) hh it a ne its.toArray
    rw [en] at D
    exact ⟨[a], _, _, D, ⟨hit, p⟩, fun j y hy => vals_getR r (by simpa using hy), fun j h st => ⟨a, rfl, st.1⟩, fun b hb => by rw [List.mem_singleton.mp hb]⟩
  | str =>
    obtain ⟨z, rfl, rfl⟩ := hq
    obtain ⟨t, rfl⟩ := hv
    obtain ⟨_, _, e, hit⟩ := hit
    cases e
    have D := Draws.text (prog := X.prog) (w := X.w) hh it z t
    rw [← signs_len] at D
    exact ⟨[], _, _, D, hit, fun j y ⟨c, u, hc, e⟩ => ⟨_, signs_get hc, by rw [e]; exact ⟨u, rfl⟩⟩, fun j h st => ⟨z, t, rfl, st⟩, fun b hb => (by cases hb)⟩
/-- at the end -/
theorem srcV_end (I : Inv X pins σ H s) {A : Around} (hh : A.handled = none) {k : SK} {v : V} {xs : List V} {u : Value} {it : Addr} {i : Nat} (hq : SrcV X.K H k v xs) (hv : RelV v u) (hit : ItSt k u it i s.heap) (hi : xs.length ≤ i) :
    ∃ (rest : List Addr) (Pp : Nat → Value → Prop) (St : Nat → Heap → Prop), Draws X.prog X.w A it (it :: rest) i Pp St ∧ St i s.heap ∧ ∀ b ∈ rest, u = .ref b := by
  have mk : ∀ (rest : List Addr) (S0 : Heap → Prop), S0 s.heap → (∀ h, S0 h → ∃ o, h.get? it = some o) → (∀ h h', S0 h → (∀ b ∈ it :: rest, ∀ o, h.get? b = some o → h'.get? b = some o) → S0 h') → (∀ b ∈ rest, u = .ref b) →
      (∀ (s : Shared) (Q : Value → Shared → Prop) (E : Value → Shared → Prop), S0 s.heap → (∀ h' e, Heap.ExtBut it s.heap h' → (∃ o, h'.get? e = some o ∧ o.cls = .type "StopIteration") → E (.ref e) { s with heap := h' }) → wpAny (model X.prog X.w) A (Builtin.SmallTypes.nextOf (.ref it)) Q E s) →
      ∃ (rest : List Addr) (Pp : Nat → Value → Prop) (St : Nat → Heap → Prop), Draws X.prog X.w A it (it :: rest) i Pp St ∧ St i s.heap ∧ ∀ b ∈ rest, u = .ref b := fun rest S0 h0 h1 h2 h3 h4 =>
    ⟨rest, fun _ _ => False, fun j h => j = i ∧ S0 h, { live := fun j h st => h1 h st.2, frame := fun j h h' st kp => ⟨st.1, h2 h h' st.2 kp⟩, item := fun j s Q E hj st _ => absurd st.1 (Nat.ne_of_lt hj), done := fun s Q E st hE => h4 s Q E st.2 hE }, ⟨rfl, h0⟩, h3⟩
  cases k with
  | lst =>
    obtain ⟨a, rfl, hq⟩ := hq
    obtain rfl : u = Value.ref a := hv
    obtain ⟨its, r, p, z⟩ := I.list hq
    obtain ⟨_, e, hit⟩ := hit
    cases e
    have := r.length
    exact mk [a] (fun h => h.IsListIter it a i ∧ h.IsList a its.toArray) ⟨hit, p.isList⟩ (fun h st => let ⟨o, ho, _⟩ := st.1; ⟨o, ho⟩) (fun h h' st kp => ⟨st.1.at fun o e => kp it (by simp) o e, st.2.at fun o e => kp a (by simp) o e⟩) (fun b hb => by rw [List.mem_singleton.mp hb])
      fun s Q E st hE => wpAny_nextOf_list_end hh st.1 st.2 (by simp; omega) hE
  | tup =>
    obtain ⟨a, rfl, hq⟩ := hq
    obtain rfl : u = Value.ref a := hv
    obtain ⟨its, r, p, z⟩ := I.tuple hq
    obtain ⟨_, e, hit⟩ := hit
    cases e
    have := r.length
    exact mk [a] (fun h => h.IsTupleIter it a i ∧ h.IsTuple a its.toArray) ⟨hit, p⟩ (fun h st => let ⟨o, ho, _⟩ := st.1; ⟨o, ho⟩) (fun h h' st kp => ⟨st.1.at fun o e => kp it (by simp) o e, st.2.at fun o e => kp a (by simp) o e⟩) (fun b hb => by rw [List.mem_singleton.mp hb])
      fun s Q E st hE => wpAny_nextOf_tuple_end hh st.1 st.2 (by simp; omega) hE
  | str =>
    obtain ⟨z, rfl, rfl⟩ := hq
    obtain ⟨t, rfl⟩ := hv
    obtain ⟨_, _, e, hit⟩ := hit
    cases e
    rw [signs_len] at hi
    refine mk [] (fun h => h.IsStrIter it (strIterType z) z t i) hit (fun h st => let ⟨o, ho, _⟩ := st; ⟨o, ho⟩) (fun h h' st kp => let ⟨o, ho, r⟩ := st; ⟨o, kp it (by simp) o ho, r⟩) (fun b hb => (by cases hb)) fun s Q E st hE => ?_
    have hx : z.cps[i]? = none := Array.getElem?_eq_none hi
    cases ha : z.cps.all (· < 128)
    · simp only [strIterType, ha, Bool.false_eq_true, if_false] at st
      exact wpAny_nextOf_wide_end hh st hx hE
    · simp only [strIterType, ha, if_true] at st
      exact wpAny_nextOf_ascii_end hh st hx hE
/-- the iterator is made -/
theorem srcV_begins (I : Inv X pins σ H s) {k : SK} {v : V} {xs : List V} {u : Value} (hq : SrcV X.K H k v xs) (hv : RelV v u) :
    ∃ (o : Obj) (Hp : Heap → Prop), Begins u o Hp ∧ Hp s.heap ∧ Below u s.heap.objs.size ∧ ∀ (h : Heap) (it : Addr), h.get? it = some o → ItSt k u it 0 h := by
  cases k with
  | lst =>
    obtain ⟨a, rfl, hq⟩ := hq
    obtain rfl : u = Value.ref a := hv
    obtain ⟨its, r, p, z⟩ := I.list hq
    exact ⟨_, _, begins_list a its.toArray, p.isList, fun b e => (by cases e; exact p.lt), fun h it e => ⟨a, rfl, _, e, rfl, rfl⟩⟩
  | tup =>
    obtain ⟨a, rfl, hq⟩ := hq
    obtain rfl : u = Value.ref a := hv
    obtain ⟨its, r, p, z⟩ := I.tuple hq
    exact ⟨_, _, begins_tuple a its.toArray, p, fun b e => (by cases e; obtain ⟨o, e1, _⟩ := p; exact Heap.lt_size e1), fun h it e => ⟨a, rfl, _, e, rfl, rfl⟩⟩
  | str =>
    obtain ⟨z, rfl, rfl⟩ := hq
    obtain ⟨t, rfl⟩ := hv
    exact ⟨_, _, begins_text z t, trivial, fun b e => (by cases e), fun h it e => ⟨z, t, rfl, _, e, rfl, rfl⟩⟩
end
/-! ### enumerate -/
def IteA (K : PySem.W.Frag) (k : SK) (v : V) : It :=
  ⟨fun i H => ∃ (xs : List V) (x : V), SrcV K H k v xs ∧ xs[i]? = some x, fun i H y H' => ∃ T x, y = .ref T ∧ H T = none ∧ H' = upd H T (.tup [.int (i : Nat), x]) ∧ ∀ xs, SrcV K H k v xs → xs[i]? = some x, fun i H => ∃ xs : List V, SrcV K H k v xs ∧ xs.length ≤ i⟩
theorem turn_enumA {P : Program} {w : World} {K : PySem.W.Frag} {elts : List Expr} {kk : Nat} {tpos : Pos} (k : SK) (v : V) (u : Value) (hv : RelV v u) (N : Nat) (hN : Below u N) :
    Turn P w K (.Tuple elts kk tpos) (IteA K k v) [N + 1, N] (N + 1) (fun i h => (∃ old, IsEnum h (N + 1) N ((i : Nat) : Int) old) ∧ ItSt k u N i h) where
  mem := by simp
  obj := fun i h st b hb => by
    obtain ⟨⟨old, he⟩, hi⟩ := st
    obtain ⟨o, vs, ho, hd⟩ := hi.obj
    have e' : b = N + 1 ∨ b = N := by simpa using hb
    rcases e' with z | z
    · rw [z]; exact ⟨_, he, fun v q => nomatch q⟩
    · rw [z]; exact ⟨o, ho, fun v q => by rw [hd] at q; cases q⟩
  keep := fun i h h' st kp => let ⟨⟨old, he⟩, hi⟩ := st; ⟨⟨old, kp (N + 1) (by simp) _ he⟩, hi.move fun o q => kp N (by simp) o q⟩
  item := by
    intro X hP hw hK hc i pins s σ H E I hf st hg
    subst hP hw hK
    obtain ⟨⟨old, he⟩, hit⟩ := st
    obtain ⟨xs, x, hq, hx⟩ := hg
    have hne : (N + 1 : Nat) ≠ N := Nat.succ_ne_self N
    obtain ⟨rest, Pp, St, D, hst, hPp, hnx, hr⟩ := srcV_draws I (A := X.A.in1) (I.ok.hd hc) hq hv hit
    have hef : (N + 1 : Nat) ∉ N :: rest := fun hm => by
      rcases List.mem_cons.mp hm with e | hm
      · exact hne e
      · have := hN _ (hr _ hm)
        exact absurd this (by show ¬ ((N + 1 : Nat) < N); omega)
    have hil : i < xs.length := (List.getElem?_eq_some_iff.mp hx).1
    have hel : (N + 1 : Nat) < s.heap.objs.size := Heap.lt_size he
    have hNl : (N : Nat) < s.heap.objs.size := Nat.lt_of_succ_lt hel
    refine wpAny_pyNext_enum_itemD D he hst hil hne hef fun y h' tk hP1 ho hst' hT hsz hk => ?_
    obtain ⟨x', hx', ry⟩ := hPp i y hP1
    rw [hx] at hx'
    cases hx'
    refine ⟨_, rfl, wpAny_letOwnedTupleGo_enum (s := { s with heap := h', toks := tk + 1 }) ho fun h'' he' sb => ?_⟩
    have hT2 : h''.get? s.heap.objs.size = some { cls := .type "tuple", data := .seq #[.int i tk, y] } := (sb.2 _ (Nat.ne_of_gt hel)).trans hT
    have new : ObjOk X.prog X.w (upd H s.heap.objs.size (.tup [.int (i : Nat), x])) h'' s.heap.objs.size (.tup [.int (i : Nat), x]) :=
      ⟨by show 2 ≤ sizeLine; decide, [.int i tk, y], .cons ⟨_, rfl⟩ (.cons ry .nil), ⟨_, hT2, rfl, _, rfl⟩⟩
    have I1 : Inv X pins σ (upd H s.heap.objs.size (.tup [.int (i : Nat), x])) { s with heap := h'', toks := tk + 1 } :=
      I.turnedNew (ch := [N + 1, N]) (fun b ob hb q => (sb.2 b (fun z => hb (by simp [z]))).trans (hk b ob (fun z => hb (by simp [z])) (fun z => hb (by simp [z])) q)) hf (Nat.le_refl _) new
    refine ⟨.ref s.heap.objs.size, _, I1, rfl, ⟨_, x, rfl, I.hok.fresh (Nat.le_refl _), rfl, fun ys hy => by rw [srcV_inj I hy hq]; exact hx⟩, ⟨⟨y, ?_⟩, (hnx _ _ hst').move fun o q => (sb.2 N (Ne.symm hne)).trans q⟩, fun b hb => ?_⟩
    · rw [show ((i + 1 : Nat) : Int) = (i : Int) + 1 from rfl]
      exact he'
    · have e' : b = N + 1 ∨ b = N := by simpa using hb
      have hb' : b < s.heap.objs.size := e'.elim (fun z => by rw [z]; exact hel) (fun z => by rw [z]; exact hNl)
      rw [upd_ne (Nat.ne_of_lt hb')]
      exact (hf b hb).1
  done := by
    intro X hP hw hK hc i pins s σ H E I hf st hg
    subst hP hw hK
    obtain ⟨⟨old, he⟩, hit⟩ := st
    obtain ⟨xs, hq, hx⟩ := hg
    obtain ⟨f0, f1, f2, f3, f4, f5⟩ := hf N (by simp)
    obtain ⟨rest, Pp, St, D, hst, hr⟩ := srcV_end I (A := X.A.in1) (I.ok.hd hc) hq hv hit hx
    exact wpAny_pyNext_enum_endD D he hst fun h' eb => ⟨rfl, I.turned (t' := s.toks) (fun b o hb q => eb b o hb q) f0 f1 f3 f4 f5⟩
  self := fun A i s Q E st h => let ⟨⟨_, he⟩, _⟩ := st; wpAny_pyIter_enum he h
theorem meets_enum1 {v : Value} {o : Obj} {H : Heap → Prop} (B : Begins v o H) :
    Meets (Builtin.«enumerate.__new__» ⟨[.type "enumerate", v], []⟩) (fun _ R s => H s.heap ∧ R (.ok (.ret (.ref (s.heap.push o).objs.size))) { s with heap := (s.heap.push o).push { cls := .type "enumerate", data := .fields #[.none, .bool false, .ref s.heap.objs.size, rawInt 0, .none, .none] } }) :=
  .of_wp fun prog w A R s h => by
    obtain ⟨hp, g, d, tk, os⟩ := s
    obtain ⟨h1, h⟩ := h
    have hsub := sub_enumerate
    have q1 : ∀ {A' : Around} {E : Value → Shared → Prop} {Q : Value → Shared → Prop}, Q (.ref hp.objs.size) ⟨hp.push o, g, d, tk, os⟩ → wpAny (model prog w) A' (pyIter v) Q E ⟨hp, g, d, tk, os⟩ := fun q => B.iter prog w _ _ ⟨hp, g, d, tk, os⟩ _ h1 q
    wp_walk using q1
    refine wpAny_stack_any fun st => wpAny_pure ?_
    split
    · rename_i c _ _ _ _ _
      cases (c == Value.type "enumerate") <;> (wp_walk using q1; exact ⟨_, rfl, h⟩)
    · wp_walk using q1
      exact ⟨_, rfl, h⟩
section
variable {prog : Program} {w : World} {A : Around} {E : Value → Shared → Prop} {s : Shared}
theorem enum_begins1 {v : Value} {o : Obj} {H : Heap → Prop} {Q : Value → Shared → Prop} (B : Begins v o H) (h1 : H s.heap)
    (h : ∀ h', IsEnum h' (s.heap.objs.size + 1) s.heap.objs.size 0 .none → h'.get? s.heap.objs.size = some o → (∀ b o, s.heap.get? b = some o → h'.get? b = some o) → Q (.ref (s.heap.objs.size + 1)) { s with heap := h' }) :
    wpAny (model prog w) A (call (.type "enumerate") [v]) Q E s := by
  refine callType_new F.called_enumerate (by decide) (F.typeCall_enumerate_1 _) (F.newCall_enumerate_1 _) (fun obj => F.args_object_init_2 obj _) F.entry_enumerate_new (meets_enum1 B) ⟨h1, ?_⟩
  have hz : (s.heap.push o).objs.size = s.heap.objs.size + 1 := Heap.size_push ..
  have he := Heap.get?_push_size (s.heap.push o) (o := { cls := .type "enumerate", data := .fields #[.none, .bool false, .ref s.heap.objs.size, rawInt 0, .none, .none] }) rfl
  show _ ∧ _
  rw [hz] at he ⊢
  exact ⟨⟨_, he, rfl⟩, h _ he (Heap.get?_push_of_some _ (Heap.get?_push_size _ B.free)) fun b o x => Heap.get?_push_of_some _ (Heap.get?_push_of_some _ x)⟩
end
def iEnumA (K : PySem.W.Frag) (ta : TA) : TI := fun σ H R => ta σ H fun vs H1 => ∃ v k xs, vs = [v] ∧ SrcV K H1 k v xs ∧ R (IteA K k v) H1
theorem pi_enumA {X : Cx} {e : Expr} {ta : TA} {p pos tpos : Pos} {elts : List Expr} {kk : Nat} (hg : Gl X "enumerate") (hm : X.mg "enumerate" = none) (ha : PA X [e] ta) (hs : starEach [e] X.env = [(false, eval e X.env)] := by rfl) :
    PI X (.Tuple elts kk tpos) (.Call (.Name "enumerate" p) [e] [] pos) (iEnumA X.K ta) := by
  refine ⟨fun pins s σ H R I h => Call_ (ld_blt I hg hm boot_enumerate (PyProof.Rows.callWith_type1 (thn (ha.run pos pins s σ H _ I h) fun us s1 ⟨vs, H1, I1, r1, v, k, xs, ex, hq, q⟩ => ?_) hs rfl))⟩
  subst ex
  cases r1 with
  | @cons _ u _ _ r rr =>
    cases rr
    obtain ⟨o, Hq, B, b1, bl, bi⟩ := srcV_begins I1 hq r
    refine enum_begins1 B b1 fun h' he hit hk => wpAny_pyIter_enum he ?_
    refine ⟨s1.heap.objs.size + 1, [s1.heap.objs.size + 1, s1.heap.objs.size], _, _, H1, rfl, I1.kept (t' := s1.toks) hk, turn_enumA k v u r s1.heap.objs.size bl, ⟨⟨.none, he⟩, bi _ _ hit⟩, fun b hb => ?_, q⟩
    have e' : b = s1.heap.objs.size + 1 ∨ b = s1.heap.objs.size := by simpa using hb
    have hle : s1.heap.objs.size ≤ b := e'.elim (fun z => by rw [z]; exact Nat.le_add_right _ _) fun z => by rw [z]; exact Nat.le_refl _
    exact I1.fpOk hle (I1.hok.fresh hle)
/-! ### zip -/
def ItzA (K : PySem.W.Frag) (k1 k2 : SK) (v1 v2 : V) : It :=
  ⟨fun i H => ∃ (xs ys : List V) (x y : V), SrcV K H k1 v1 xs ∧ SrcV K H k2 v2 ys ∧ xs[i]? = some x ∧ ys[i]? = some y,
    fun i H v H' => ∃ T x y, v = .ref T ∧ H T = none ∧ H' = upd H T (.tup [x, y]) ∧ (∀ xs, SrcV K H k1 v1 xs → xs[i]? = some x) ∧ ∀ ys, SrcV K H k2 v2 ys → ys[i]? = some y,
    fun i H => ∃ xs ys : List V, SrcV K H k1 v1 xs ∧ SrcV K H k2 v2 ys ∧ (xs.length = i ∧ i ≤ ys.length ∨ ys.length = i ∧ i ≤ xs.length)⟩
theorem turn_zipX {P : Program} {w : World} {K : PySem.W.Frag} {elts : List Expr} {kk : Nat} {tpos : Pos} (k1 k2 : SK) (v1 v2 : V) (u1 u2 : Value) (hv1 : RelV v1 u1) (hv2 : RelV v2 u2) (N : Nat) (hN1 : Below u1 N) (hN2 : Below u2 N) :
    Turn P w K (.Tuple elts kk tpos) (ItzA K k1 k2 v1 v2) [N + 4, N + 2, N + 3, N, N + 1] (N + 4)
      (fun i h => IsZip h (N + 4) (N + 2) (N + 3) .none ∧ IsTupOf2 h (N + 2) (.ref N) (.ref (N + 1)) ∧ (∃ a b, IsTupOf2 h (N + 3) a b) ∧ ItSt k1 u1 N i h ∧ ItSt k2 u2 (N + 1) i h) where
  mem := by simp
  obj := fun i h st c hc => by
    obtain ⟨hz, hTI, ⟨x, y, hTO⟩, h1, h2⟩ := st
    obtain ⟨o1, vs1, e1, d1⟩ := h1.obj
    obtain ⟨o2, vs2, e2, d2⟩ := h2.obj
    have e' : c = N + 4 ∨ c = N + 2 ∨ c = N + 3 ∨ c = N ∨ c = N + 1 := by simpa using hc
    rcases e' with q | q | q | q | q <;> rw [q]
    · exact ⟨_, hz, fun v q => nomatch q⟩
    · exact ⟨_, hTI, fun v q => nomatch q⟩
    · exact ⟨_, hTO, fun v q => nomatch q⟩
    · exact ⟨o1, e1, fun v q => by rw [d1] at q; cases q⟩
    · exact ⟨o2, e2, fun v q => by rw [d2] at q; cases q⟩
  keep := fun i h h' st kp => by
    obtain ⟨hz, hTI, ⟨x, y, hTO⟩, h1, h2⟩ := st
    exact ⟨kp _ (by simp) _ hz, kp _ (by simp) _ hTI, ⟨x, y, kp _ (by simp) _ hTO⟩, h1.move fun o q => kp _ (by simp) o q, h2.move fun o q => kp _ (by simp) o q⟩
  item := by
    intro X hP hw hK hc i pins s σ H E I hf st hg
    subst hP hw hK
    obtain ⟨hz, hTI, ⟨x0, y0, hTO⟩, h1, h2⟩ := st
    obtain ⟨xs, ys, x, y, hqx, hqy, hx, hy⟩ := hg
    obtain ⟨r1, P1, St1, D1, s1, p1, n1, b1⟩ := srcV_draws I (A := X.A.in1) (I.ok.hd hc) hqx hv1 h1
    obtain ⟨r2, P2, St2, D2, s2, p2, n2, b2⟩ := srcV_draws I (A := X.A.in1) (I.ok.hd hc) hqy hv2 h2
    have S := zip_sep2 (N := N) (fp1 := r1) (fp2 := r2) (fun b hb => hN1 b (b1 b hb)) (fun b hb => hN2 b (b2 b hb))
    have hzl : (N + 4 : Nat) < s.heap.objs.size := Heap.lt_size hz
    refine wpAny_pyNext_zipD2_item S D1 D2 hz hTI hTO s1 s2 (List.getElem?_eq_some_iff.mp hx).1 (List.getElem?_eq_some_iff.mp hy).1 fun u u' h' tk y1 y2 z' TO' h1' h2' hT hsz hk => ?_
    obtain ⟨x', e1, ru⟩ := p1 i u y1
    obtain ⟨y', e2, ru2⟩ := p2 i u' y2
    rw [hx] at e1
    rw [hy] at e2
    cases e1
    cases e2
    refine ⟨_, rfl, wpAny_letOwnedTupleGo_zip (s := { s with heap := h', toks := tk }) z' fun h'' z'' sb => ?_⟩
    have hT2 : h''.get? s.heap.objs.size = some { cls := .type "tuple", data := .seq #[u, u'] } := (sb.2 _ (Nat.ne_of_gt hzl)).trans hT
    have new : ObjOk X.prog X.w (upd H s.heap.objs.size (.tup [x, y])) h'' s.heap.objs.size (.tup [x, y]) := ⟨by show 2 ≤ sizeLine; decide, [u, u'], .cons ru (.cons ru2 .nil), ⟨_, hT2, rfl, _, rfl⟩⟩
    have I1 : Inv X pins σ (upd H s.heap.objs.size (.tup [x, y])) { s with heap := h'', toks := tk } :=
      I.turnedNew (ch := [N + 4, N + 2, N + 3, N, N + 1]) (fun c o hb q => (sb.2 c (fun q' => hb (by simp [q']))).trans (hk c o (fun q' => hb (by simp [q'])) (fun q' => hb (by simp [q'])) (fun q' => hb (by simp [q'])) (fun q' => hb (by simp [q'])) q)) hf (Nat.le_refl _) new
    have nz : ∀ c : Nat, c ≠ N + 4 → ∀ o, h'.get? c = some o → h''.get? c = some o := fun c hc o q => (sb.2 c hc).trans q
    refine ⟨.ref s.heap.objs.size, _, I1, rfl, ⟨_, x, y, rfl, I.hok.fresh (Nat.le_refl _), rfl, fun l hl => by rw [srcV_inj I hl hqx]; exact hx, fun l hl => by rw [srcV_inj I hl hqy]; exact hy⟩, ⟨z'', ?_, ⟨u, u', ?_⟩, ?_, ?_⟩, fun c hcm => ?_⟩
    · exact nz (N + 2) (by omega) _ (hk _ _ S.TIz S.TITO S.TIi1 S.TIi2 hTI)
    · exact nz (N + 3) (by omega) _ TO'
    · exact (n1 _ _ h1').move fun o q => nz N (by omega) o q
    · exact (n2 _ _ h2').move fun o q => nz (N + 1) (by omega) o q
    · have hlt : c < s.heap.objs.size := by
        have e' : c = N + 4 ∨ c = N + 2 ∨ c = N + 3 ∨ c = N ∨ c = N + 1 := by simpa using hcm
        have : ∀ m : Nat, m ≤ N + 4 → m < s.heap.objs.size := fun m hm => by omega
        rcases e' with q | q | q | q | q <;> (rw [q]; exact this _ (by omega))
      rw [upd_ne (Nat.ne_of_lt hlt)]
      exact (hf c hcm).1
  done := by
    intro X hP hw hK hc i pins s σ H E I hf st hg
    subst hP hw hK
    obtain ⟨hz, hTI, ⟨x0, y0, hTO⟩, h1, h2⟩ := st
    obtain ⟨xs, ys, hqx, hqy, hend⟩ := hg
    obtain ⟨r1, P1, St1, D1, s1, p1, n1, b1⟩ := srcV_draws I (A := X.A.in1) (I.ok.hd hc) hqx hv1 h1
    obtain ⟨r2, P2, St2, D2, s2, p2, n2, b2⟩ := srcV_draws I (A := X.A.in1) (I.ok.hd hc) hqy hv2 h2
    have S := zip_sep2 (N := N) (fp1 := r1) (fp2 := r2) (fun b hb => hN1 b (b1 b hb)) (fun b hb => hN2 b (b2 b hb))
    exact wpAny_pyNext_zipD2_end S D1 D2 hz hTI hTO s1 s2 (by omega) (by omega) (by omega) fun h' tk hk => ⟨rfl, I.turnedL (t' := tk) (ch := [N + 4, N + 2, N + 3, N, N + 1]) (fun c o hb q =>
      hk c o (fun q' => hb (by simp [q'])) (fun q' => hb (by simp [q'])) (fun q' => hb (by simp [q'])) (fun q' => hb (by simp [q'])) q) hf⟩
  self := fun A i s Q E st h => wpAny_pyIter_zip st.1 h
def iZipX (K : PySem.W.Frag) (ta : TA) : TI := fun σ H R => ta σ H fun vs H1 => ∃ v1 v2 k1 k2 xs ys, vs = [v1, v2] ∧ SrcV K H1 k1 v1 xs ∧ SrcV K H1 k2 v2 ys ∧ R (ItzA K k1 k2 v1 v2) H1
theorem pi_zipX {X : Cx} {e e2 : Expr} {ta : TA} {p pos tpos : Pos} {elts : List Expr} {kk : Nat} (hg : Gl X "zip") (hm : X.mg "zip" = none) (ha : PA X [e, e2] ta)
    (hs : starEach [e, e2] X.env = (false, eval e X.env) :: starEach [e2] X.env := by rfl) (hpl : (backTo pos (starEach [e2] X.env)).any (·.1) = false := by rfl) :
    PI X (.Tuple elts kk tpos) (.Call (.Name "zip" p) [e, e2] [] pos) (iZipX X.K ta) := by
  refine ⟨fun pins s σ H R I h => Call_ (ld_blt I hg hm PyProof.Rows.boot_zip (PyProof.Rows.callWith_type1 (thn (ha.run pos pins s σ H _ I h) fun us s1 ⟨vs, H1, I1, r1, v1, v2, k1, k2, xs, ys, ex, hqx, hqy, q⟩ => ?_) hs hpl))⟩
  subst ex
  cases r1 with
  | @cons _ u1 _ _ ru1 rr =>
    cases rr with
    | @cons _ u2 _ _ ru2 rr =>
      cases rr
      obtain ⟨o1, Hq1, B1, b1, bl1, bi1⟩ := srcV_begins I1 hqx ru1
      obtain ⟨o2, Hq2, B2, b2, bl2, bi2⟩ := srcV_begins I1 hqy ru2
      refine zip_begins2 B1 B2 b1 b2 fun h' hz hTI hTO g1 g2 hsz hk => wpAny_pyIter_zip hz ?_
      refine ⟨s1.heap.objs.size + 4, _, _, _, H1, rfl, I1.kept (t' := s1.toks) hk, turn_zipX k1 k2 v1 v2 u1 u2 ru1 ru2 s1.heap.objs.size bl1 bl2, ⟨hz, hTI, ⟨_, _, hTO⟩, bi1 _ _ g1, bi2 _ _ g2⟩, fun c hcm => ?_, q⟩
      have e' : c = s1.heap.objs.size + 4 ∨ c = s1.heap.objs.size + 2 ∨ c = s1.heap.objs.size + 3 ∨ c = s1.heap.objs.size ∨ c = s1.heap.objs.size + 1 := by simpa using hcm
      have hle : s1.heap.objs.size ≤ c := by rcases e' with z | z | z | z | z <;> (rw [z]; first | exact Nat.le_add_right _ _ | exact Nat.le_refl _)
      exact I1.fpOk hle (I1.hok.fresh hle)
end PD
end

section
/-! PD20: what is walked, over deep values: any sequence, enumerate, zip. -/
namespace PD
open PySem PySem.Spec PyProof.Rows L2
def signsD (z : Str) : List D := z.cps.toList.map fun c => .str ⟨#[c]⟩
theorem rds_signs {K : PySem.W.Frag} {G : Addr → Prop} {S : HD} {H : Hp} (z : Str) : RDs K G S H (signsD z) (signs z) := by
  unfold signsD signs
  generalize z.cps.toList = cs
  induction cs with
  | nil => exact .nil
  | cons c cs ih => exact .cons (.str _) ih
/-- the items, and what keeps them -/
def srcD (S : HD) : D → Option (List D × (HD → Prop))
  | .tup xs => some (xs, fun _ => True)
  | .lst xs => some (xs, fun _ => True)
  | .ref a => match S.hp a with
    | some (.lst xs) => some (xs, fun S => S.hp a = some (.lst xs))
    | _ => none
  | .str z => some (signsD z, fun _ => True)
  | _ => none
def skD : D → SK
  | .tup _ => .tup
  | .str _ => .str
  | _ => .lst
theorem srcD_at {K : PySem.W.Frag} {S0 : HD} {d : D} {v : V} {xs : List D} {keep : HD → Prop} (e : srcD S0 d = some (xs, keep)) {G : Addr → Prop} {S : HD} {H : Hp} (rh : RH K G S H) (q : RD K G S H d v) (k : keep S) : ∃ vs, SrcV K H (skD d) v vs ∧ RDs K G S H xs vs := by
  cases q with
  | tup h r => cases e; exact ⟨_, ⟨_, rfl, h.sq⟩, r⟩
  | lst h r => cases e; exact ⟨_, ⟨_, rfl, h.sq⟩, r⟩
  | str z => cases e; exact ⟨_, ⟨_, rfl, rfl⟩, rds_signs z⟩
  | ref a =>
    simp only [srcD] at e
    split at e
    · cases e
      obtain ⟨_, _, vs, e1, r⟩ := rh.hp a _ k
      exact ⟨vs, ⟨a, rfl, .of e1⟩, r⟩
    · cases e
  | _ => cases e
theorem srcD_keep {S : HD} {d : D} {xs : List D} {keep : HD → Prop} (e : srcD S d = some (xs, keep)) : keep S := by
  cases d <;> first | (cases e; done) | (cases e; trivial) | skip
  simp only [srcD] at e
  split at e
  · cases e; assumption
  · cases e
/-! ### enumerate -/
def enumD (xs : List D) : List D := (xs.zipIdx).map fun p => .tup [.int (p.2 : Nat), p.1]
theorem enumD_get {xs : List D} {i : Nat} {d : D} (h : (enumD xs)[i]? = some d) : ∃ x, xs[i]? = some x ∧ d = .tup [.int (i : Nat), x] := by
  unfold enumD at h
  rw [List.getElem?_map, List.getElem?_zipIdx] at h
  cases e : xs[i]? with
  | none => rw [e] at h; cases h
  | some x => rw [e] at h; simp at h; exact ⟨x, rfl, h.symm⟩
theorem enumD_len (xs : List D) : (enumD xs).length = xs.length := by simp [enumD]
theorem itOk_enum {K : PySem.W.Frag} {G : Addr → Prop} {S : HD} {H : Hp} {k : SK} {v : V} {xs : List D} {keep : HD → Prop} (h : ∀ S1 H1, FL S H S1 H1 → RH K G S1 H1 → keep S1 → ∃ vs, SrcV K H1 k v vs ∧ RDs K G S1 H1 xs vs) : ItOk K G S H (IteA K k v) (enumD xs) keep where
  go := fun i d S1 H1 hx f r kp => by
    obtain ⟨x, hx', rfl⟩ := enumD_get hx
    obtain ⟨vs, h1, h2⟩ := h S1 H1 f r kp
    obtain ⟨y, e1, e2⟩ := h2.get hx'
    refine ⟨⟨vs, y, h1, e1⟩, fun z H2 ⟨T, y', ez, hT, eH, hy⟩ => ?_⟩
    subst ez eH
    have := hy vs h1
    rw [e1] at this
    cases this
    obtain ⟨r', f', _⟩ := r.newF hT (.tup [.int (i : Nat), y])
    exact ⟨f', r', r.newT hT (.cons (.int _) (.cons e2 .nil))⟩
  stop := fun S1 H1 f r kp => by
    obtain ⟨vs, h1, h2⟩ := h S1 H1 f r kp
    exact ⟨vs, h1, by rw [enumD_len, h2.length]; exact Nat.le_refl _⟩
def iEnumD (ta : TAD) : TID := fun σ S R => ta σ S fun ds S1 => match ds with
  | [d] => (match srcD S1 d with
    | some (xs, keep) => R (enumD xs) keep S1
    | none => False)
  | _ => False
theorem di_enum {X : Cx} {e : Expr} {ta : TAD} {p pos tpos : Pos} {elts : List Expr} {kk : Nat} (hm : X.mg "enumerate" = none) (ha : DA X [e] ta) (hg : Gl X "enumerate" := by rfl) (hs : starEach [e] X.env = [(false, eval e X.env)] := by rfl) : DI X (.Tuple elts kk tpos) (.Call (.Name "enumerate" p) [e] [] pos) (iEnumD ta) :=
  (pi_enumA hg hm ha hs).imp fun σ H R ⟨G, σd, S, Rd, rs, rh, t, p⟩ => ⟨G, σd, S, _, rs, rh, t, fun S1 ds vs H1 f1 rh1 q1 t1 => by
    split at t1
    · rename_i d
      cases q1 with
      | @cons _ v _ _ q r =>
        cases r
        split at t1
        · rename_i xs keep e
          obtain ⟨ws, h1, _⟩ := srcD_at e rh1 q (srcD_keep e)
          exact ⟨v, skD d, ws, rfl, h1, p S1 _ _ _ H1 f1 rh1 (fun G' S2 H2 m2 rh2 => itOk_enum fun S3 H3 f3 rh3 k3 => srcD_at e rh3 ((q.mv m2).fl f3) k3) t1⟩
        · exact t1.elim
    · exact t1.elim⟩
/-! ### zip -/
def zipD (xs ys : List D) : List D := (xs.zip ys).map fun p => .tup [p.1, p.2]
theorem zipD_len (xs ys : List D) : (zipD xs ys).length = min xs.length ys.length := by simp [zipD]
theorem zipD_get {xs ys : List D} {i : Nat} {d : D} (h : (zipD xs ys)[i]? = some d) : ∃ x y, xs[i]? = some x ∧ ys[i]? = some y ∧ d = .tup [x, y] := by
  unfold zipD at h
  rw [List.getElem?_map] at h
  obtain ⟨⟨x, y⟩, h1, h2⟩ := Option.map_eq_some_iff.mp h
  have := List.getElem?_zip_eq_some.mp h1
  exact ⟨x, y, this.1, this.2, h2.symm⟩
theorem itOk_zip {K : PySem.W.Frag} {G : Addr → Prop} {S : HD} {H : Hp} {k1 k2 : SK} {v1 v2 : V} {xs ys : List D} {keep : HD → Prop} (h : ∀ S1 H1, FL S H S1 H1 → RH K G S1 H1 → keep S1 → (∃ vs, SrcV K H1 k1 v1 vs ∧ RDs K G S1 H1 xs vs) ∧ ∃ vs, SrcV K H1 k2 v2 vs ∧ RDs K G S1 H1 ys vs) : ItOk K G S H (ItzA K k1 k2 v1 v2) (zipD xs ys) keep where
  go := fun i d S1 H1 hx f r kp => by
    obtain ⟨x, y, hx', hy, rfl⟩ := zipD_get hx
    obtain ⟨⟨vs, h1, h2⟩, ws, h3, h4⟩ := h S1 H1 f r kp
    obtain ⟨u, e1, e2⟩ := h2.get hx'
    obtain ⟨u', e3, e4⟩ := h4.get hy
    refine ⟨⟨vs, ws, u, u', h1, h3, e1, e3⟩, fun z H2 ⟨T, y1, y2, ez, hT, eH, g1, g2⟩ => ?_⟩
    subst ez eH
    have a1 := g1 vs h1
    have a2 := g2 ws h3
    rw [e1] at a1
    rw [e3] at a2
    cases a1
    cases a2
    obtain ⟨r', f', _⟩ := r.newF hT (.tup [u, u'])
    exact ⟨f', r', r.newT hT (.cons e2 (.cons e4 .nil))⟩
  stop := fun S1 H1 f r kp => by
    obtain ⟨⟨vs, h1, h2⟩, ws, h3, h4⟩ := h S1 H1 f r kp
    refine ⟨vs, ws, h1, h3, ?_⟩
    rw [zipD_len, h2.length, h4.length]
    omega
def iZipD (ta : TAD) : TID := fun σ S R => ta σ S fun ds S1 => match ds with
  | [d, e] => (match srcD S1 d, srcD S1 e with
    | some (xs, k1), some (ys, k2) => R (zipD xs ys) (fun S => k1 S ∧ k2 S) S1
    | _, _ => False)
  | _ => False
theorem di_zip {X : Cx} {e e2 : Expr} {ta : TAD} {p pos tpos : Pos} {elts : List Expr} {kk : Nat} (hm : X.mg "zip" = none) (ha : DA X [e, e2] ta) (hg : Gl X "zip" := by rfl)
    (hs : starEach [e, e2] X.env = (false, eval e X.env) :: starEach [e2] X.env := by rfl) (hpl : (backTo pos (starEach [e2] X.env)).any (·.1) = false := by rfl) : DI X (.Tuple elts kk tpos) (.Call (.Name "zip" p) [e, e2] [] pos) (iZipD ta) :=
  (pi_zipX hg hm ha hs hpl).imp fun σ H R ⟨G, σd, S, Rd, rs, rh, t, p⟩ => ⟨G, σd, S, _, rs, rh, t, fun S1 ds vs H1 f1 rh1 q1 t1 => by
    split at t1
    · rename_i d d'
      cases q1 with
      | @cons _ v _ _ q r =>
        cases r with
        | @cons _ v' _ _ q' r =>
          cases r
          split at t1
          · rename_i xs k1 ys k2 ea eb
            obtain ⟨ws, h1, _⟩ := srcD_at ea rh1 q (srcD_keep ea)
            obtain ⟨ws', h2, _⟩ := srcD_at eb rh1 q' (srcD_keep eb)
            exact ⟨v, v', skD d, skD d', ws, ws', rfl, h1, h2, p S1 _ _ _ H1 f1 rh1 (fun G' S2 H2 m2 rh2 => itOk_zip fun S3 H3 f3 rh3 k3 => ⟨srcD_at ea rh3 ((q.mv m2).fl f3) k3.1, srcD_at eb rh3 ((q'.mv m2).fl f3) k3.2⟩) t1⟩
          · exact t1.elim
    · exact t1.elim⟩
/-! ### anything walked by itself -/
/-- its turns -/
def ItV (K : PySem.W.Frag) (k : SK) (v : V) : It :=
  ⟨fun i H => ∃ (xs : List V) (x : V), SrcV K H k v xs ∧ xs[i]? = some x, fun i H y H' => H' = H ∧ ∀ xs, SrcV K H k v xs → xs[i]? = some y, fun i H => ∃ xs : List V, SrcV K H k v xs ∧ xs.length ≤ i⟩
theorem turn_map {P : Program} {w : World} {K : PySem.W.Frag} {tg : Expr} {J J' : It} {fp : List Addr} {it : Addr} {tn : Nat → Heap → Prop} (T : Turn P w K tg J fp it tn) (h1 : ∀ i H, J'.go i H → J.go i H) (h2 : ∀ i H x H', J'.go i H → J.yld i H x H' → J'.yld i H x H') (h3 : ∀ i H, J'.stop i H → J.stop i H) : Turn P w K tg J' fp it tn where
  mem := T.mem
  obj := T.obj
  keep := T.keep
  item := fun X hP hw hK hc i pins s σ H E I hf st hg => wpAny_mono (T.item X hP hw hK hc i pins s σ H E I hf st (h1 _ _ hg)) (fun r s1 ⟨u, e, q⟩ => ⟨u, e, wpAny_mono q (fun _ s2 ⟨x, H', a, b, c, d⟩ => ⟨x, H', a, b, h2 _ _ _ _ hg c, d⟩) fun _ _ h => h⟩) fun _ _ h => h
  done := fun X hP hw hK hc i pins s σ H E I hf st hg => T.done X hP hw hK hc i pins s σ H E I hf st (h3 _ _ hg)
  self := T.self
def iSrcV (K : PySem.W.Frag) (te : TE) : TI := fun σ H R => te σ H fun v H1 => ∃ k xs, SrcV K H1 k v xs ∧ (k = .str ∨ xs.length ≤ sizeLine → R (ItV K k v) H1)
theorem pi_src {X : Cx} {tg e : Expr} {te : TE} (he : PE X e te) : PI X tg e (iSrcV X.K te) := by
  refine ⟨fun pins s σ H R I h => thn (he.run pins s σ H _ I h) fun u s1 ⟨v, H1, I1, r1, k, xs, hq, q⟩ => ?_⟩
  cases k with
  | lst =>
    obtain ⟨a, rfl, hq⟩ := hq
    obtain rfl : u = Value.ref a := r1
    obtain ⟨its, rv, p, hz⟩ := I1.list hq
    refine wpAny_pyIter_list p.isList (pi_one (tk := s1.toks) I1 _ (turn_map (J' := ItV X.K .lst (.ref a)) (turn_list a _) (fun i H ⟨xs, x, ⟨b, e, h⟩, hx⟩ => ?_) (fun i H x H' ⟨xs, x', ⟨b, e, h⟩, hx⟩ y => ?_) fun i H ⟨xs, ⟨b, e, h⟩, hx⟩ => ?_) ⟨_, Heap.get?_push_size _ rfl, rfl, rfl⟩ (q (.inr hz)))
    · cases e; exact ⟨xs, x, h, hx⟩
    · cases e
      obtain ⟨y1, y2⟩ := y
      exact ⟨y1, fun zs ⟨b, e, hz⟩ => (by cases e; exact y2 zs hz)⟩
    · cases e; exact ⟨xs, h, hx⟩
  | tup =>
    obtain ⟨a, rfl, hq⟩ := hq
    obtain rfl : u = Value.ref a := r1
    obtain ⟨its, rv, p, hz⟩ := I1.tuple hq
    refine wpAny_pyIter_tuple (show s1.heap.IsTuple a its.toArray from p) (pi_one (tk := s1.toks) I1 _ (turn_map (J' := ItV X.K .tup (.ref a)) (turn_tuple a _) (fun i H ⟨xs, x, ⟨b, e, h⟩, hx⟩ => ?_) (fun i H x H' ⟨xs, x', ⟨b, e, h⟩, hx⟩ y => ?_) fun i H ⟨xs, ⟨b, e, h⟩, hx⟩ => ?_) ⟨_, Heap.get?_push_size _ rfl, rfl, rfl⟩ (q (.inr hz)))
    · cases e; exact ⟨xs, x, h, hx⟩
    · cases e
      obtain ⟨y1, y2⟩ := y
      exact ⟨y1, fun zs ⟨b, e, hz⟩ => (by cases e; exact y2 zs hz)⟩
    · cases e; exact ⟨xs, h, hx⟩
  | str =>
    obtain ⟨z, rfl, rfl⟩ := hq
    obtain ⟨t, rfl⟩ := r1
    have g1 : ∀ i H, (ItV X.K .str (.str z)).go i H → (Its z).go i H := fun i H ⟨xs, x, ⟨b, e, h⟩, hx⟩ => by
      cases e
      subst h
      have := (List.getElem?_eq_some_iff.mp hx).1
      rw [signs_len] at this
      exact this
    have g2 : ∀ i H x H', (ItV X.K .str (.str z)).go i H → (Its z).yld i H x H' → (ItV X.K .str (.str z)).yld i H x H' := fun i H x H' _ ⟨y1, c, hc, ev⟩ => ⟨y1, fun zs ⟨b, e, hz⟩ => by
      cases e
      subst hz ev
      exact signs_get hc⟩
    have g3 : ∀ i H, (ItV X.K .str (.str z)).stop i H → (Its z).stop i H := fun i H ⟨xs, ⟨b, e, h⟩, hx⟩ => by
      cases e
      subst h
      rw [signs_len] at hx
      exact hx
    cases ha : z.cps.all (· < 128)
    · exact wpAny_pyIter_wide ha (pi_one (tk := s1.toks) I1 _ (turn_map (turn_str _ z t "str_iterator" (.inr rfl)) g1 g2 g3) ⟨_, Heap.get?_push_size _ rfl, rfl, rfl⟩ (q (.inl rfl)))
    · exact wpAny_pyIter_ascii ha (pi_one (tk := s1.toks) I1 _ (turn_map (turn_str _ z t "str_ascii_iterator" (.inl rfl)) g1 g2 g3) ⟨_, Heap.get?_push_size _ rfl, rfl, rfl⟩ (q (.inl rfl)))
theorem itOk_v {K : PySem.W.Frag} {G : Addr → Prop} {S : HD} {H : Hp} {k : SK} {v : V} {xs : List D} {keep : HD → Prop} (h : ∀ S1 H1, FL S H S1 H1 → RH K G S1 H1 → keep S1 → ∃ vs, SrcV K H1 k v vs ∧ RDs K G S1 H1 xs vs) : ItOk K G S H (ItV K k v) xs keep where
  go := fun i d S1 H1 hx f r kp => by
    obtain ⟨vs, h1, h2⟩ := h S1 H1 f r kp
    obtain ⟨y, e1, e2⟩ := h2.get hx
    refine ⟨⟨vs, y, h1, e1⟩, fun z H2 ⟨eH, hy⟩ => ?_⟩
    subst eH
    have := hy vs h1
    rw [e1] at this
    cases this
    exact ⟨.refl _ _, r, e2⟩
  stop := fun S1 H1 f r kp => by
    obtain ⟨vs, h1, h2⟩ := h S1 H1 f r kp
    exact ⟨vs, h1, by rw [h2.length]; exact Nat.le_refl _⟩
/-- a list, a tuple, a text -/
def iAnyD (te : TED) : TID := fun σ S R => te σ S fun d S1 => match srcD S1 d with
  | some (xs, keep) => (match d with
    | .str z => R xs keep S1
    | _ => xs.length ≤ sizeLine → R xs keep S1)
  | none => False
theorem di_any {X : Cx} {tg l : Expr} {tl : TED} (hl : DE X l tl) : DI X tg l (iAnyD tl) :=
  (pi_src hl).imp fun σ H R ⟨G, σd, S, Rd, rs, rh, t, p⟩ => ⟨G, σd, S, _, rs, rh, t, fun S1 d v H1 f1 rh1 q1 t1 => by
    split at t1
    · rename_i xs keep e
      obtain ⟨vs, h1, h2⟩ := srcD_at e rh1 q1 (srcD_keep e)
      refine ⟨skD d, vs, h1, fun hz => p S1 _ _ _ H1 f1 rh1 (fun G' S2 H2 m2 rh2 => itOk_v fun S3 H3 f3 rh3 k3 => srcD_at e rh3 ((q1.mv m2).fl f3) k3) ?_⟩
      split at t1
      · exact t1
      · rename_i ne
        refine t1 (hz.elim (fun e => ?_) fun hz => by rw [h2.length]; exact hz)
        cases d <;> first | cases e | skip
        exact (ne _ rfl).elim
    · exact t1.elim⟩
end PD
end

section
/-! PD21: methods of lists and texts, in, sum, [::-1]. -/
namespace PD
open PySem PySem.Spec PyProof.Rows L2
section
variable {X : Cx} {o e a b : Expr} {es : List Expr} {to te ta tb : TED} {tA : TAD} {name : Str} {apos cpos pos : Pos}
/-- a list, tracked or frozen -/
def isLst (S : HD) (d : D) : Prop := ∃ xs, asLst S d = some xs
/-- o.m(e, ..) of any list -/
def tMethA (rd : D → List D → HD → QD → Prop) (to : TED) (ta : TAD) : TED := fun σ S Q => to σ S fun x S1 => isLst S1 x ∧ ta σ S1 fun ds S2 => rd x ds S2 Q
theorem de_methA {id : String} {r : V → List V → Hp → VK → Prop} {rd : D → List D → HD → QD → Prop} (slot : Slot "list" name id) (hty : typeOf (.builtin id) = pure (.type "method_descriptor")) (hm : MtR X id r)
    (i : ∀ G S H d v ds vs Qd Q, RH X.K G S H → RD X.K G S H d v → RDs X.K G S H ds vs → rd d ds S Qd → Post X.K G S H Qd Q → r v vs H Q) (ho : DE X o to) (ha : DA X (e :: es) tA)
    (hbase : attributeBase o name X.env (eval o X.env) = eval o X.env := by rfl)
    (hfew : ((backTo cpos (starEach (e :: es) X.env)).all (fun x => !x.1) && (backToKw cpos (keywordEach [] X.env)).all (fun x => x.1.isSome)
      && decide ((e :: es).length + ([] : List Keyword).length + (if ([] : List Keyword).isEmpty then 0 else 1) < 30)) = true := by rfl)
    (hline : (apos.endLine == cpos.line) = true := by rfl) (hs : starEach (e :: es) X.env = (false, eval e X.env) :: starEach es X.env := by rfl) (hplain : (backTo cpos (starEach es X.env)).any (·.1) = false := by rfl) :
    DE X (.Call (.Attribute o name apos) (e :: es) [] cpos) (tMethA rd to tA) :=
  (pe_bm PySem.F.plainAttrs_list slot hty hm ho ha hbase hfew hline hs hplain).imp fun σ H Q ⟨G, σd, S, Qd, rs, rh, t, p⟩ => ⟨G, σd, S, _, rs, rh, t, fun S1 d v H1 f1 rh1 q1 ⟨⟨xs, hl⟩, t1⟩ => by
    obtain ⟨p1, vs, rfl, l1, _⟩ := asLst_ok rh1 hl q1
    exact ⟨.inl ⟨rfl, _, l1⟩, G, σd, S1, _, rs.fl f1, rh1, t1, fun S2 ds vs H2 f2 rh2 q2 t2 => i G S2 H2 _ _ ds vs _ _ rh2 (q1.fl f2) q2 t2 (p.fl (f1.trans f2))⟩⟩
theorem de_methA0 {id : String} {r : V → List V → Hp → VK → Prop} {rd : D → List D → HD → QD → Prop} (slot : Slot "list" name id) (hty : typeOf (.builtin id) = pure (.type "method_descriptor")) (hm : MtR X id r)
    (i : ∀ G S H d v Qd Q, RH X.K G S H → RD X.K G S H d v → rd d [] S Qd → Post X.K G S H Qd Q → r v [] H Q) (ho : DE X o to)
    (hbase : attributeBase o name X.env (eval o X.env) = eval o X.env := by rfl) (hline : (apos.endLine == cpos.line) = true := by rfl) : DE X (.Call (.Attribute o name apos) [] [] cpos) (tMethA rd to tNilD) :=
  (pe_bm0 PySem.F.plainAttrs_list slot hty hm ho hbase hline).imp fun σ H Q ⟨G, σd, S, Qd, rs, rh, t, p⟩ => ⟨G, σd, S, _, rs, rh, t, fun S1 d v H1 f1 rh1 q1 ⟨⟨xs, hl⟩, t1⟩ => by
    obtain ⟨p1, vs, rfl, l1, _⟩ := asLst_ok rh1 hl q1
    exact ⟨.inl ⟨rfl, _, l1⟩, i G S1 H1 _ _ _ _ rh1 q1 t1 (p.fl f1)⟩⟩
/-- xs.extend(ys) -/
def rExtD : D → List D → HD → QD → Prop := fun x ds S Q => match x, ds with
  | .ref a, [y] => (match S.hp a, asLst S y with
    | some (.lst xs), some zs => xs.length + zs.length ≤ sizeLine ∧ Q .non (S.set a (.lst (xs ++ zs)))
    | _, _ => False)
  | _, _ => False
theorem extD_ok : ∀ G S H d v ds vs Qd Q, RH X.K G S H → RD X.K G S H d v → RDs X.K G S H ds vs → rExtD d ds S Qd → Post X.K G S H Qd Q → (∃ l b xs zs, v = .ref l ∧ vs = [.ref b] ∧ H l = some (.lst xs) ∧ SqL X.K H b zs ∧ xs.length + zs.length ≤ sizeLine ∧ Q .non (upd H l (.lst (xs ++ zs)))) := by
  intro G S H d v ds vs Qd Q rh q1 q2 t p
  unfold rExtD at t
  split at t
  · rename_i a y
    split at t
    · rename_i xs zs e e2
      obtain ⟨_, _, ws, e1, r⟩ := rh.hp a _ e
      cases q1
      cases q2 with
      | @cons _ u _ _ q2 r2 =>
        cases r2
        obtain ⟨b, us, rfl, l2, rr⟩ := asLst_ok rh e2 q2
        obtain ⟨rh', f'⟩ := rh.writeL e (r.append rr)
        exact ⟨a, b, ws, us, rfl, rfl, e1, l2, by rw [← r.length, ← rr.length]; exact t.1, p _ _ _ _ f' rh' .non t.2⟩
    · exact t.elim
  · exact t.elim
/-- xs.pop() -/
def rPopD : D → List D → HD → QD → Prop := fun x _ S Q => match x with
  | .ref a => (match S.hp a with
    | some (.lst xs) => (match xs.getLast? with
      | some y => Q y (S.set a (.lst xs.dropLast))
      | none => False)
    | _ => False)
  | _ => False
theorem RDs.dropLast {K : PySem.W.Frag} {G : Addr → Prop} {S : HD} {H : Hp} {ds : List D} {vs : List V} (r : RDs K G S H ds vs) : RDs K G S H ds.dropLast vs.dropLast := by
  rw [List.dropLast_eq_take, List.dropLast_eq_take, r.length]
  exact r.take _
theorem de_pop (ho : DE X o to) (hbase : attributeBase o "pop" X.env (eval o X.env) = eval o X.env := by rfl) (hline : (apos.endLine == cpos.line) = true := by rfl) : DE X (.Call (.Attribute o "pop" apos) [] [] cpos) (tMethA rPopD to tNilD) :=
  de_methA0 PySem.F.slot_list_pop PySem.F.type_list_pop mt_pop (fun G S H d v Qd Q rh q1 t p => by
    unfold rPopD at t
    split at t
    · rename_i a
      split at t
      · rename_i xs e
        split at t
        · rename_i y e2
          obtain ⟨_, _, ws, e1, r⟩ := rh.hp a _ e
          cases q1
          rw [List.getLast?_eq_getElem?] at e2
          obtain ⟨u, h1, h2⟩ := r.get e2
          rw [r.length] at h1
          obtain ⟨rh', f'⟩ := rh.writeL e r.dropLast
          exact ⟨a, ws, u, rfl, rfl, e1, h1, p _ _ _ _ f' rh' (h2.fl f') t⟩
        · exact t.elim
      · exact t.elim
    · exact t.elim) ho hbase hline
/-! ### flat values -/
def flatD : D → Bool
  | .non => true
  | .bl _ => true
  | .int _ => true
  | .str _ => true
  | _ => false
def toV : D → V
  | .bl b => .bl b
  | .int i => .int i
  | .str x => .str x
  | _ => .non
def eqF (d e : D) : Bool := eqV (toV d) (toV e)
theorem flat_v {K : PySem.W.Frag} {G : Addr → Prop} {S : HD} {H : Hp} {d : D} {v : V} (q : RD K G S H d v) (h : flatD d = true) : v = toV d ∧ flatV v = true := by
  cases q <;> first | exact ⟨rfl, rfl⟩ | cases h
theorem flats_v {K : PySem.W.Frag} {G : Addr → Prop} {S : HD} {H : Hp} : ∀ {ds : List D} {vs : List V}, RDs K G S H ds vs → ds.all flatD = true → vs = ds.map toV ∧ vs.all flatV = true
  | _, _, .nil, _ => ⟨rfl, rfl⟩
  | _, _, .cons q r, h => by
    simp only [List.all_cons, Bool.and_eq_true] at h
    obtain ⟨h1, h2⟩ := flat_v q h.1
    obtain ⟨h3, h4⟩ := flats_v r h.2
    exact ⟨by rw [h1, h3]; rfl, by simp only [List.all_cons, h2, h4, Bool.and_self]⟩
/-- x in xs, flat -/
def inF (x : D) (xs : List D) : Bool := xs.any fun y => eqF y x
def rInD (neg : Bool) : R2D := fun x y S Q => match asSeq S y with
  | some xs => (flatD x = true ∧ xs.all flatD = true) ∧ Q (.bl (if neg then !inF x xs else inF x xs)) S
  | none => False
theorem in2 {K : PySem.W.Frag} (neg : Bool) : Op2 K (rIn K neg) (rInD neg) := fun G S H d1 d2 v1 v2 Qd Q rh q1 q2 t p => by
  unfold rInD at t
  split at t
  · rename_i xs e
    obtain ⟨⟨f1, f2⟩, t⟩ := t
    obtain ⟨a, ws, rfl, l, r⟩ := asSeq_ok rh e q2
    obtain ⟨e1, g1⟩ := flat_v q1 f1
    obtain ⟨e2, g2⟩ := flats_v r f2
    refine ⟨a, ws, rfl, l, g1, g2, p.here rh ?_ t⟩
    have e3 : inV v1 ws = inF d1 xs := by
      rw [e1, e2]
      unfold inV inF eqF
      rw [List.any_map]
      rfl
    rw [e3]
    exact .bl _
  · exact t.elim
theorem de_in (ha : DE X a ta) (hb : DE X b tb) (hm : behindInMarks .In b = false := by rfl) : DE X (.Compare a [.In] [b] pos) (tBin (rInD false) ta tb) := de_cmp op_in_seq (in2 false) ha hb hm
theorem de_notIn (ha : DE X a ta) (hb : DE X b tb) (hm : behindInMarks .NotIn b = false := by rfl) : DE X (.Compare a [.NotIn] [b] pos) (tBin (rInD true) ta tb) := de_cmp op_notIn_seq (in2 true) ha hb hm
theorem dt_in (ha : DE X a ta) (hb : DE X b tb) (hm : behindInMarks .In b = false := by rfl) : DT X (.Compare a [.In] [b] pos) (tTst (tBin (rInD false) ta tb)) := dt_cmp op_in_seq (in2 false) ha hb hm
theorem dt_notIn (ha : DE X a ta) (hb : DE X b tb) (hm : behindInMarks .NotIn b = false := by rfl) : DT X (.Compare a [.NotIn] [b] pos) (tTst (tBin (rInD true) ta tb)) := dt_cmp op_notIn_seq (in2 true) ha hb hm
/-- xs.index(y), flat: the first place -/
def ixF (x : D) : List D → Option Nat
  | [] => none
  | y :: ys => if eqF y x = true then some 0 else (ixF x ys).map (· + 1)
def rLixD : D → List D → HD → QD → Prop := fun x ds S Q => match ds with
  | [y] => (match asLst S x with
    | some xs => (flatD y = true ∧ xs.all flatD = true) ∧ (match ixF y xs with
      | some j => Q (.int (j : Nat)) S
      | none => False)
    | none => False)
  | _ => False
theorem ixF_some {x : D} : ∀ {xs : List D} {j : Nat}, ixF x xs = some j → ∃ z, xs[j]? = some z ∧ eqF z x = true ∧ ∀ m z', m < j → xs[m]? = some z' → eqF z' x = false
  | [], j, h => by cases h
  | y :: ys, j, h => by
    unfold ixF at h
    split at h
    · rename_i hy
      cases h
      exact ⟨y, rfl, hy, fun m z' hm => absurd hm (Nat.not_lt_zero m)⟩
    · rename_i hy
      obtain ⟨k, hk, rfl⟩ := Option.map_eq_some_iff.mp h
      obtain ⟨z, h1, h2, h3⟩ := ixF_some hk
      refine ⟨z, by simpa using h1, h2, fun m z' hm hz => ?_⟩
      cases m with
      | zero => simp at hz; subst hz; simpa using hy
      | succ m => exact h3 m z' (by omega) (by simpa using hz)
/-- sum(xs) of whole numbers -/
def intsOf : List D → Option (List Int)
  | [] => some []
  | .int i :: r => (intsOf r).map (i :: ·)
  | _ :: _ => none
theorem intsOf_eq : ∀ {ds : List D} {ns : List Int}, intsOf ds = some ns → ds = ns.map D.int
  | [], ns, h => by cases h; rfl
  | .int i :: r, ns, h => by
    simp only [intsOf] at h
    obtain ⟨ms, h1, rfl⟩ := Option.map_eq_some_iff.mp h
    rw [intsOf_eq h1]
    rfl
  | .non :: _, _, h => by cases h
  | .bl _ :: _, _, h => by cases h
  | .str _ :: _, _, h => by cases h
  | .tup _ :: _, _, h => by cases h
  | .lst _ :: _, _, h => by cases h
  | .dic _ :: _, _, h => by cases h
  | .ref _ :: _, _, h => by cases h
  | .ty _ :: _, _, h => by cases h
  | .deck :: _, _, h => by cases h
theorem intsOf_map (ns : List Int) : intsOf (ns.map D.int) = some ns := by
  induction ns with
  | nil => rfl
  | cons n ns ih => simp [intsOf, ih]
def rSumD : SpD := fun ds S Q => match ds with
  | [d] => (match asLst S d with
    | some xs => (match intsOf xs with
      | some ns => Q (.int ns.sum) S
      | none => False)
    | none => False)
  | _ => False
theorem call_sumRD (hc : X.calm = true := by rfl) : CallRD X (.builtin "sum") rSumD := .of (cr_sum hc) fun G S H ds vs Qd Q rh rd t p => by
  unfold rSumD at t
  split at t
  · split at t
    · rename_i xs e
      split at t
      · rename_i ns e2
        cases rd with
        | cons q r =>
          cases r
          obtain ⟨a, ws, rfl, l, r⟩ := asLst_ok rh e q
          rw [intsOf_eq e2] at r
          rw [rds_ints r] at l
          exact ⟨a, ns, rfl, l, p.here rh (.int _) t⟩
      · exact t.elim
    · exact t.elim
  · exact t.elim
end
end PD
end

section
/-! PD22: extend by any list, index, join, [::-1] of lists. -/
namespace PD
open PySem PySem.Spec PyProof.Rows L2
open AutoSeq1 (wpAny_loadPart')
theorem meets_extB (l : Addr) (items : Array Value) (n : Nat) (b : Addr) (items2 : Array Value) (n2 : Nat) (dd : Option Addr) (sl : Array (Option Value)) (hc0 : ¬(!items.isEmpty && Builtin.List.listTooLong (items.size + items2.size)) = true) (hc1 : items.size ≤ sizeLine) (hs2 : items.size + items2.size ≤ sizeLine + 1) :
    Meets (Builtin.«list.extend» ⟨[.ref l, .ref b], []⟩) (fun _ R s => s.heap.get? l = some { cls := .type "list", dict := none, data := .seq items n, slots := #[] } ∧ s.heap.get? b = some { cls := .type "list", dict := dd, data := .seq items2 n2, slots := sl } ∧
      R (.ok (.ret Value.none)) { s with heap := s.heap.update l (Obj.mapSeq fun x => x ++ items2), toks := s.toks }) :=
  .of_wp fun prog w A R s h => by
    obtain ⟨hp, g, d, tk, os⟩ := s
    obtain ⟨hl, hb, h⟩ := h
    have f1 := PySem.AutoSeq1.idx_int
    have f2 := PySem.AutoSeq1.sub_tuple_tuple
    have f3 := PySem.AutoSeq1.sub_list_list
    have f4 := PySem.AutoSeq1.sub_tuple_list
    have f5 := PySem.AutoSeq1.sub_list_tuple
    have hz' : (items ++ items2).size ≤ sizeLine + 1 := by rw [Array.size_append]; exact hs2
    wp_walk using (wpAny_updateSeq hl rfl (hz := hc1) (_hz' := hz')), wpAny_loadPart' hl, wpAny_loadPart' hb
    exact ⟨_, rfl, h⟩
section
variable {X : Cx} {o e a b : Expr} {to te ta tb : TED} {apos cpos pos : Pos}
def rExtS (K : PySem.W.Frag) : V → List V → Hp → VK → Prop := fun v vs H Q => ∃ l b xs zs, v = .ref l ∧ vs = [.ref b] ∧ H l = some (.lst xs) ∧ SqL K H b zs ∧ xs.length + zs.length ≤ sizeLine ∧ Q .non (upd H l (.lst (xs ++ zs)))
theorem mt_extS : MtR X "list.extend" (rExtS X.K) := by
  intro pins s σ H x vs v us Q I rx rv ⟨l, b, xs, zs, e1, e2, hH, hB, hz, q⟩
  subst e1 e2
  cases rx
  obtain ⟨u, rfl, ru⟩ := rv.one
  cases ru
  obtain ⟨z, its, n, r, hl, e⟩ := I.lstM hH
  obtain ⟨its2, r2, ⟨⟨cls, dd, data, sl⟩, n2, ho, hc, hdn, hd⟩, hlen⟩ := I.list hB
  simp only at hc hd
  subst hc hd
  have hl2 := r2.length
  have hsz : its.toArray.size + its2.toArray.size ≤ sizeLine := by rw [List.size_toArray, List.size_toArray]; omega
  have hlong : ¬ (!its.toArray.isEmpty && Builtin.List.listTooLong (its.toArray.size + its2.toArray.size)) = true := by
    rw [notLongL hsz, Bool.and_false]
    decide
  exact call_meets PySem.F.slot_list_extend ⟨_, e, rfl⟩ PySem.F.entry_list_extend (PySem.F.args_list_extend_2 _ _) (meets_extB l its.toArray n b its2.toArray n2 dd sl hlong (by omega) (by omega))
    ⟨e, ho, .non, _, I.lset (its' := its ++ its2) hH e (by simp) (r.append r2) (by rw [List.length_append]; omega), rfl, q⟩
theorem de_extend (ho : DE X o to) (ha : DA X [e] (tConsD te tNilD)) (hbase : attributeBase o "extend" X.env (eval o X.env) = eval o X.env := by rfl)
    (hfew : ((backTo cpos (starEach (e :: []) X.env)).all (fun x => !x.1) && (backToKw cpos (keywordEach [] X.env)).all (fun x => x.1.isSome)
      && decide ((e :: ([] : List Expr)).length + ([] : List Keyword).length + (if ([] : List Keyword).isEmpty then 0 else 1) < 30)) = true := by rfl)
    (hline : (apos.endLine == cpos.line) = true := by rfl) (hs : starEach (e :: []) X.env = (false, eval e X.env) :: starEach [] X.env := by rfl) : DE X (.Call (.Attribute o "extend" apos) [e] [] cpos) (tMethA rExtD to (tConsD te tNilD)) :=
  de_methA PySem.F.slot_list_extend PySem.F.type_list_extend mt_extS extD_ok ho ha hbase hfew hline hs rfl
theorem de_lindex (ho : DE X o to) (ha : DA X [e] (tConsD te tNilD)) (hbase : attributeBase o "index" X.env (eval o X.env) = eval o X.env := by rfl)
    (hfew : ((backTo cpos (starEach (e :: []) X.env)).all (fun x => !x.1) && (backToKw cpos (keywordEach [] X.env)).all (fun x => x.1.isSome)
      && decide ((e :: ([] : List Expr)).length + ([] : List Keyword).length + (if ([] : List Keyword).isEmpty then 0 else 1) < 30)) = true := by rfl)
    (hline : (apos.endLine == cpos.line) = true := by rfl) (hs : starEach (e :: []) X.env = (false, eval e X.env) :: starEach [] X.env := by rfl) : DE X (.Call (.Attribute o "index" apos) [e] [] cpos) (tMethA rLixD to (tConsD te tNilD)) :=
  de_methA PySem.F.slot_list_index PySem.F.type_list_index mt_index (fun G S H d v ds vs Qd Q rh q1 q2 t p => by
    unfold rLixD at t
    split at t
    · rename_i y
      split at t
      · rename_i xs e
        obtain ⟨⟨f1, f2⟩, t⟩ := t
        split at t
        · rename_i j ej
          obtain ⟨z, z1, z2, z3⟩ := ixF_some ej
          obtain ⟨p1, ws, rfl, l, r⟩ := asLst_ok rh e q1
          cases q2 with
          | cons q2 r2 =>
            cases r2
            obtain ⟨e1, g1⟩ := flat_v q2 f1
            obtain ⟨e2, g2⟩ := flats_v r f2
            subst e1 e2
            refine ⟨p1, _, _, j, toV z, rfl, rfl, l, g1, g2, by rw [List.getElem?_map, z1]; rfl, z2, fun m z' hm hz => ?_, p.here rh (.int _) t⟩
            rw [List.getElem?_map] at hz
            obtain ⟨w, hw, rfl⟩ := Option.map_eq_some_iff.mp hz
            exact z3 m w hm hw
        · exact t.elim
      · exact t.elim
    · exact t.elim) ho ha hbase hfew hline hs rfl
/-! ### texts -/
/-- o.m(e) of a text -/
def tMethS (rd : D → D → HD → QD → Prop) (to te : TED) : TED := fun σ S Q => to σ S fun x S1 => (∃ z, x = .str z) ∧ te σ S1 fun y S2 => rd x y S2 Q
def strsOf : List D → Option (List Str)
  | [] => some []
  | .str i :: r => (strsOf r).map (i :: ·)
  | _ :: _ => none
theorem strsOf_map (ns : List Str) : strsOf (ns.map D.str) = some ns := by
  induction ns with
  | nil => rfl
  | cons n ns ih => simp [strsOf, ih]
theorem strsOf_eq : ∀ {ds : List D} {ns : List Str}, strsOf ds = some ns → ds = ns.map D.str
  | [], ns, h => by cases h; rfl
  | .str i :: r, ns, h => by
    simp only [strsOf] at h
    obtain ⟨ms, h1, rfl⟩ := Option.map_eq_some_iff.mp h
    rw [strsOf_eq h1]
    rfl
  | .non :: _, _, h => by cases h
  | .bl _ :: _, _, h => by cases h
  | .int _ :: _, _, h => by cases h
  | .tup _ :: _, _, h => by cases h
  | .lst _ :: _, _, h => by cases h
  | .dic _ :: _, _, h => by cases h
  | .ref _ :: _, _, h => by cases h
  | .ty _ :: _, _, h => by cases h
  | .deck :: _, _, h => by cases h
theorem rds_strs {K : PySem.W.Frag} {G : Addr → Prop} {S : HD} {H : Hp} : ∀ {ns : List Str} {vs : List V}, RDs K G S H (ns.map D.str) vs → vs = ns.map V.str
  | [], _, .nil => rfl
  | n :: ns, _, .cons q r => by cases q; rw [rds_strs r]; rfl
def rJoinD (x y : D) (S : HD) (Q : QD) : Prop := match x, asSeq S y with
  | .str a, some xs => (match strsOf xs with
    | some ys => (ys.map (·.length)).sum + ys.length * a.length ≤ 16777216 ∧ Q (.str (Txt.join a ys)) S
    | none => False)
  | _, _ => False
theorem de_join (ho : DE X o to) (he : DE X e te) (hs : starEach [e] X.env = [(false, eval e X.env)] := by rfl) (hbase : attributeBase o "join" X.env (eval o X.env) = eval o X.env := by rfl) (hline : (apos.endLine == pos.line) = true := by rfl) :
    DE X (.Call (.Attribute o "join" apos) [e] [] pos) (tMethS rJoinD to te) :=
  (pe_join ho he hs hbase hline).imp fun σ H Q ⟨G, σd, S, Qd, rs, rh, t, p⟩ => ⟨G, σd, S, _, rs, rh, t, fun S1 d v H1 f1 rh1 q1 ⟨⟨z, ez⟩, t1⟩ => by
    subst ez
    cases q1
    refine ⟨⟨z, rfl⟩, G, σd, S1, _, rs.fl f1, rh1, t1, fun S2 d2 v2 H2 f2 rh2 q2 t2 => ?_⟩
    unfold rJoinD at t2
    split at t2
    · rename_i a xs e1 e2
      cases e1
      split at t2
      · rename_i ys e3
        obtain ⟨p1, ws, rfl, l, r⟩ := asSeq_ok rh2 e2 q2
        rw [strsOf_eq e3] at r
        rw [rds_strs r] at l
        exact ⟨z, p1, ys, rfl, rfl, l, t2.1, p S2 _ _ H2 (f1.trans f2) rh2 (.str _) t2.2⟩
      · exact t2.elim
    · exact t2.elim⟩
/-- s.index(t), found -/
def rSixD (x y : D) (S : HD) (Q : QD) : Prop := match x, y with
  | .str a, .str b => (match Txt.index0 a b with
    | some k => Q (.int (k : Nat)) S
    | none => False)
  | _, _ => False
theorem mt_sindex : MtR X "str.index" (fun x xs H Q => ∃ (a b : Str) (k : Nat), x = .str a ∧ xs = [.str b] ∧ Txt.index0 a b = some k ∧ Q (.int (k : Nat)) H) := by
  intro pins s σ H x xs v us Q I rx rs ⟨a, b, k, e1, e2, hk, q⟩
  subst e1 e2
  obtain ⟨t, rfl⟩ := rx
  cases rs with
  | cons r1 rs =>
    cases rs
    obtain ⟨u, rfl⟩ := r1
    cases h : Builtin.Str.occurrences a b 0 a.length 1 with
    | nil => unfold Txt.index0 at hk; rw [h] at hk; cases hk
    | cons j rest =>
      unfold Txt.index0 at hk
      rw [h] at hk
      cases hk
      exact PySem.SC.index h ⟨.int (k : Nat), H, I.tok _, ⟨_, rfl⟩, q⟩
theorem de_sindex (ho : DE X o to) (he : DE X e te) (hs : starEach [e] X.env = [(false, eval e X.env)] := by rfl) (hbase : attributeBase o "index" X.env (eval o X.env) = eval o X.env := by rfl) (hline : (apos.endLine == pos.line) = true := by rfl) :
    DE X (.Call (.Attribute o "index" apos) [e] [] pos) (tMethS rSixD to te) :=
  (pe_m1 PySem.F.slot_str_index PySem.F.type_str_index mt_sindex ho he hs hbase hline).imp fun σ H Q ⟨G, σd, S, Qd, rs, rh, t, p⟩ => ⟨G, σd, S, _, rs, rh, t, fun S1 d v H1 f1 rh1 q1 ⟨⟨z, ez⟩, t1⟩ => by
    subst ez
    cases q1
    refine ⟨⟨z, rfl⟩, G, σd, S1, _, rs.fl f1, rh1, t1, fun S2 d2 v2 H2 f2 rh2 q2 t2 => ?_⟩
    unfold rSixD at t2
    split at t2
    · rename_i a b e1
      cases e1
      split at t2
      · rename_i k hk
        cases q2
        exact ⟨z, b, k, rfl, rfl, hk, p S2 _ _ H2 (f1.trans f2) rh2 (.int _) t2⟩
      · exact t2.elim
    · exact t2.elim⟩
/-- xs[::-1] -/
def tRevLD (te : TED) : TED := fun σ S Q => te σ S fun d S1 => match asLst S1 d with
  | some xs => Q (.lst xs.reverse) S1
  | none => False
theorem de_revL {k : Nat} {p1 p2 p3 : Pos} (he : DE X e te) : DE X (.Subscript e (.Slice none none (some (.UnaryOp .USub (.Constant (.int 1) k p1) p2)) p3) pos) (tRevLD te) :=
  (pe_revL he).imp fun σ H Q ⟨G, σd, S, Qd, rs, rh, t, p⟩ => ⟨G, σd, S, _, rs, rh, t, fun S1 d v H1 f1 rh1 q1 t1 => by
    split at t1
    · rename_i xs e
      obtain ⟨p1, ws, rfl, l, r⟩ := asLst_ok rh1 e q1
      exact ⟨p1, ws, rfl, l, fun q hq => (p.fl f1).newL rh1 r.rev t1 hq⟩
    · exact t1.elim⟩
end
end PD
end

section
/-! PD23: dicts with whole numbers and texts as keys. -/
namespace PD
open PySem PySem.Spec PyProof.Rows L2
def keyOf : D → Option Key
  | .int i => some (.inl i)
  | .str x => some (.inr x)
  | _ => none
theorem keyOf_kD (k : Key) : keyOf (kD k) = some k := by cases k <;> rfl
theorem keyOf_eq {d : D} {k : Key} (h : keyOf d = some k) : d = kD k := by
  cases d <;> first | cases h | skip
  all_goals rfl
def getK : List (D × D) → Key → Option D
  | [], _ => none
  | (d, v) :: r, k => if keyOf d = some k then some v else getK r k
def hasK (kds : List (D × D)) (k : Key) : Bool := (getK kds k).isSome
def putD (kds : List (D × D)) (k : Key) (v : D) : List (D × D) :=
  if hasK kds k = true then kds.map (fun kv => if keyOf kv.1 = some k then (kv.1, v) else kv) else kds ++ [(kD k, v)]
def asDic (S : HD) : D → Option (List (D × D))
  | .dic kds => some kds
  | .ref a => (match S.hp a with
    | some (.dic kds) => some kds
    | _ => none)
  | _ => none
section
variable {K : PySem.W.Frag} {G : Addr → Prop} {S : HD} {H : Hp}
theorem asDic_ok (rh : RH K G S H) {d : D} {v : V} {kds : List (D × D)} (h : asDic S d = some kds) (q : RD K G S H d v) : ∃ p kvs, v = .ref p ∧ Rd H p (.dK kvs) ∧ RDk K G S H kds kvs := by
  cases q with
  | dic h1 r => cases h; exact ⟨_, _, rfl, h1.2, r⟩
  | ref a =>
    simp only [asDic] at h
    split at h
    · rename_i ys e
      cases h
      obtain ⟨_, _, kvs, e1, r⟩ := rh.hp a _ e
      exact ⟨a, kvs, rfl, .inl e1, r⟩
    · cases h
  | _ => cases h
theorem key_v {d : D} {v : V} {k : Key} (h : keyOf d = some k) (q : RD K G S H d v) : v = kV k := by
  cases q <;> first | cases h | skip
  all_goals rfl
theorem rdk_get : ∀ {kds : List (D × D)} {kvs : List (Key × V)} (k : Key), RDk K G S H kds kvs → (getK kds k = none ∧ valV kvs k = none) ∨ ∃ d v, getK kds k = some d ∧ valV kvs k = some v ∧ RD K G S H d v
  | _, _, k, .nil => .inl ⟨rfl, rfl⟩
  | _, _, k, @RDk.cons _ _ _ _ k' d v kds kvs h r => by
    by_cases e : k' = k
    · subst e
      exact .inr ⟨d, v, by simp [getK, keyOf_kD], valV_pos rfl, h⟩
    · have e1 : getK ((kD k', d) :: kds) k = getK kds k := by
        simp only [getK, keyOf_kD]
        exact if_neg fun q => e (Option.some.inj q)
      have e2 : valV ((k', v) :: kvs) k = valV kvs k := valV_neg e
      rw [e1, e2]
      exact rdk_get k r
theorem RDk.append : ∀ {a b : List (D × D)} {c d : List (Key × V)}, RDk K G S H a c → RDk K G S H b d → RDk K G S H (a ++ b) (c ++ d)
  | _, _, _, _, .nil, s => s
  | _, _, _, _, .cons h r, s => .cons h (r.append s)
theorem rdk_map {k : Key} {x : D} {y : V} (q : RD K G S H x y) : ∀ {kds : List (D × D)} {kvs : List (Key × V)}, RDk K G S H kds kvs →
    RDk K G S H (kds.map fun kv => if keyOf kv.1 = some k then (kv.1, x) else kv) (kvs.map fun kv => if kv.1 = k then (kv.1, y) else kv)
  | _, _, .nil => .nil
  | _, _, @RDk.cons _ _ _ _ k' d v kds kvs h r => by
    simp only [List.map_cons, keyOf_kD]
    by_cases e : k' = k
    · subst e
      simp only [if_true]
      exact .cons q (rdk_map q r)
    · rw [if_neg fun z => e (Option.some.inj z), if_neg e]
      exact .cons h (rdk_map q r)
theorem rdk_len : ∀ {kds : List (D × D)} {kvs : List (Key × V)}, RDk K G S H kds kvs → kds.length = kvs.length
  | _, _, .nil => rfl
  | _, _, .cons _ r => by simp [rdk_len r]
theorem rdk_put {kds : List (D × D)} {kvs : List (Key × V)} (k : Key) {x : D} {y : V} (q : RD K G S H x y) (r : RDk K G S H kds kvs) : RDk K G S H (putD kds k x) (putK kvs k y) := by
  unfold putD putK hasK
  rw [valV_any]
  rcases rdk_get k r with ⟨e1, e2⟩ | ⟨d, v, e1, e2, _⟩
  · rw [e1, e2]
    exact r.append (.cons q .nil)
  · rw [e1, e2]
    exact rdk_map q r
end
/-! ### in, [] and []= of any container -/
/-- x in y: a dict's keys, a sequence's flat items, a text's parts -/
def rInX (neg : Bool) : R2D := fun x y S Q => match asDic S y, keyOf x with
  | some kds, some k => Q (.bl (if neg then !hasK kds k else hasK kds k)) S
  | _, _ => rInD neg x y S Q
section
variable {X : Cx} {o i e a b : Expr} {to ti ta tb : TED} {pos pos' : Pos}
def rDIn (neg : Bool) : R2 := fun x y H Q => ∃ a ov, y = .ref a ∧ DGet H a x ov ∧ Q (.bl (if neg then !ov.isSome else ov.isSome)) H
theorem op_inD (hu : X.A.units + 1 < cLine) : OpR X (compareOp .In) (rDIn false) := by
  intro pins s σ H x y v u Q I rx ry ⟨a, ov, e, g, q⟩
  subst e
  obtain rfl : u = Value.ref a := ry
  exact d_in hu I g rx fun s3 I3 => ⟨.bl ov.isSome, H, I3, rfl, q⟩
theorem op_notInD (hu : X.A.units + 1 < cLine) : OpR X (compareOp .NotIn) (rDIn true) := by
  intro pins s σ H x y v u Q I rx ry ⟨a, ov, e, g, q⟩
  subst e
  obtain rfl : u = Value.ref a := ry
  exact d_notIn hu I g rx fun s3 I3 => ⟨.bl (!ov.isSome), H, I3, rfl, q⟩
theorem inX2 {K : PySem.W.Frag} (neg : Bool) : Op2 K (fun x y H Q => rIn K neg x y H Q ∨ rDIn neg x y H Q) (rInX neg) := fun G S H d1 d2 v1 v2 Qd Q rh q1 q2 t p => by
  unfold rInX at t
  split at t
  · rename_i kds k e1 e2
    obtain ⟨a, kvs, rfl, r0, r⟩ := asDic_ok rh e1 q2
    refine .inr ⟨a, valV kvs k, rfl, .inl ⟨kvs, k, r0, key_v e2 q1, rfl⟩, p.here rh ?_ t⟩
    have e3 : (valV kvs k).isSome = hasK kds k := by
      unfold hasK
      rcases rdk_get k r with ⟨z1, z2⟩ | ⟨d, v, z1, z2, _⟩ <;> rw [z1, z2] <;> rfl
    rw [e3]
    exact .bl _
  · exact .inl (in2 neg G S H d1 d2 v1 v2 Qd Q rh q1 q2 t p)
theorem de_inX {k : Nat} (hr : RoomG k X.A) (ha : DE X a ta) (hb : DE X b tb) (hm : behindInMarks .In b = false := by rfl) : DE X (.Compare a [.In] [b] pos) (tBin (rInX false) ta tb) := de_cmp (op_in_seq.or (op_inD hr.un1)) (inX2 false) ha hb hm
theorem de_notInX {k : Nat} (hr : RoomG k X.A) (ha : DE X a ta) (hb : DE X b tb) (hm : behindInMarks .NotIn b = false := by rfl) : DE X (.Compare a [.NotIn] [b] pos) (tBin (rInX true) ta tb) := de_cmp (op_notIn_seq.or (op_notInD hr.un1)) (inX2 true) ha hb hm
theorem dt_inX {k : Nat} (hr : RoomG k X.A) (ha : DE X a ta) (hb : DE X b tb) (hm : behindInMarks .In b = false := by rfl) : DT X (.Compare a [.In] [b] pos) (tTst (tBin (rInX false) ta tb)) := dt_cmp (op_in_seq.or (op_inD hr.un1)) (inX2 false) ha hb hm
theorem dt_notInX {k : Nat} (hr : RoomG k X.A) (ha : DE X a ta) (hb : DE X b tb) (hm : behindInMarks .NotIn b = false := by rfl) : DT X (.Compare a [.NotIn] [b] pos) (tTst (tBin (rInX true) ta tb)) := dt_cmp (op_notIn_seq.or (op_notInD hr.un1)) (inX2 true) ha hb hm
/-- d[k] -/
def rDIx : R2 := fun x y H Q => ∃ a v, x = .ref a ∧ DGet H a y (some v) ∧ Q v H
theorem ix_dic (hu : X.A.units + 1 < cLine) : IxR X rDIx := by
  intro value slice pins s σ H x y v u Q I rx ry ⟨a, w, e, g, q⟩ hs
  subst e
  obtain rfl : v = Value.ref a := rx
  exact tail_any (ops := [.ref a, u]) (dict_typeIs I g) PySem.F.slot_dict_getitem.lookup (d_getItem hu I g ry fun w' s3 I3 rw' => ⟨w, H, I3, rw', q⟩) hs
def rIxX : R2D := fun x y S Q => match asDic S x, keyOf y with
  | some kds, some k => (match getK kds k with
    | some v => Q v S
    | none => False)
  | _, _ => rIxD x y S Q
theorem ixX2 {K : PySem.W.Frag} : Op2 K (fun x y H Q => rIx K x y H Q ∨ rDIx x y H Q) rIxX := fun G S H d1 d2 v1 v2 Qd Q rh q1 q2 t p => by
  unfold rIxX at t
  split at t
  · rename_i kds k e1 e2
    obtain ⟨a, kvs, rfl, r0, r⟩ := asDic_ok rh e1 q1
    rcases rdk_get k r with ⟨z1, z2⟩ | ⟨d, v, z1, z2, z3⟩
    · rw [z1] at t; exact t.elim
    · rw [z1] at t
      exact .inr ⟨a, v, rfl, .inl ⟨kvs, k, r0, key_v e2 q2, z2.symm⟩, p.here rh z3 t⟩
  · exact .inl (ix2 G S H d1 d2 v1 v2 Qd Q rh q1 q2 t p)
theorem de_ixX {k : Nat} (hr : RoomG k X.A) (ha : DE X a ta) (hb : DE X b tb) (hs : PlainIx b := by exact fun _ _ => rfl) : DE X (.Subscript a b pos) (tBin rIxX ta tb) := (pe_ix (ix_seq.or (ix_dic hr.un1)) ha hb hs).imp (up_bin ixX2)
/-- o[i] = v of a tracked list or dict -/
def rSetX (o i v : D) (S : HD) (Q : HD → Prop) : Prop := match o with
  | .ref a => (match S.hp a, keyOf i with
    | some (.dic kds), some k => kds.length < 16000000 ∧ Q (S.set a (.dic (putD kds k v)))
    | some (.lst xs), some (.inl j) => (match ixN xs.length j with
      | some n => Q (S.set a (.lst (xs.set n v)))
      | none => False)
    | _, _ => False)
  | _ => False
def gSubX (to ti : TED) : TGD := fun v σ S Q => to σ S fun o S1 => ti σ S1 fun i S2 => rSetX o i v S2 fun S3 => Q σ S3
theorem RH.writeD {K : PySem.W.Frag} {G : Addr → Prop} {S : HD} {H : Hp} (rh : RH K G S H) {a : Addr} {xs ys : List (D × D)} {ws : List (Key × V)} (h : S.hp a = some (.dic xs)) (r : RDk K G S H ys ws) : RH K G (S.set a (.dic ys)) (upd H a (.dK ws)) ∧ FL S H (S.set a (.dic ys)) (upd H a (.dK ws)) := by
  have m : Mv G S H G (S.set a (.dic ys)) (upd H a (.dK ws)) := ⟨fun b o e z => by
    have ne : b ≠ a := fun q => by rw [← q, z.1] at h; cases h
    exact ⟨⟨by rw [HD.set_ne ne]; exact z.1, z.2.1, z.2.2⟩, by rw [upd_ne ne]; exact e⟩, fun _ e => e⟩
  exact rh.write h ⟨ws, upd_same, r.mv m⟩
theorem PSet.or {t1 t2 : TSet} (h1 : PSet X t1) (h2 : PSet X t2) : PSet X (fun o i v H Q => t1 o i v H Q ∨ t2 o i v H Q) := fun pins s σ H o i v ov iv u Q I ro ri rv h =>
  h.elim (h1 pins s σ H o i v ov iv u Q I ro ri rv) (h2 pins s σ H o i v ov iv u Q I ro ri rv)
theorem dg_subX {k : Nat} (hr : RoomG k X.A) (ho : DE X o to) (hi : DE X i ti)
    (ha : ∀ v, assign (.Subscript o i pos) X.env v = (do
      let ov ← holding [v] (eval o X.env)
      let iv ← holding [v, ov] (eval i X.env)
      standAt pos
      holding [v, ov, iv] (setItem ov iv v)
      release [v, ov, iv] []) := by intro _; rfl) : DG X (.Subscript o i pos) (gSubX to ti) :=
  (pg_sub ho hi (PSet.or set_list (set_dict hr.un1)) ha).imp fun v σ H Q ⟨G, σd, S, d, Qd, rs, rh, q, t, p⟩ =>
    ⟨G, σd, S, _, rs, rh, t, fun S1 d1 v1 H1 f1 rh1 q1 t1 => ⟨G, σd, S1, _, rs.fl f1, rh1, t1, fun S2 d2 v2 H2 f2 rh2 q2 t2 => by
      unfold rSetX at t2
      split at t2
      · rename_i a
        split at t2
        · rename_i kds k e ek
          cases q1
          obtain ⟨_, _, ws, e1, r⟩ := rh2.hp _ _ e
          obtain ⟨rh', f'⟩ := rh2.writeD e (rdk_put k (q.fl (f1.trans f2)) r)
          refine .inr ⟨a, _, rfl, .inl ⟨ws, k, e1, key_v ek q2, ?_, rfl⟩, p _ _ _ _ (f1.trans (f2.trans f')) rh' (rs.fl (f1.trans (f2.trans f'))) t2.2⟩
          have := rdk_len r
          have : (sizeLine : Nat) = 16777216 := rfl
          omega
        · rename_i xs j e ek
          split at t2
          · rename_i n en
            have e2 := keyOf_eq ek
            subst e2
            cases q1
            cases q2
            obtain ⟨_, _, ws, e1, r⟩ := rh2.hp _ _ e
            obtain ⟨rh', f'⟩ := rh2.writeL e (r.set (q.fl (f1.trans f2)) n)
            exact .inl ⟨a, ws, j, n, rfl, rfl, e1, by rw [← r.length]; exact en, p _ _ _ _ (f1.trans (f2.trans f')) rh' (rs.fl (f1.trans (f2.trans f'))) t2⟩
          · exact t2.elim
        · exact t2.elim
      · exact t2.elim⟩⟩
/-- {} that is to change -/
def tDicR : TED := fun _ S Q => ∀ p, S.hp p = none → Q (.ref p) (S.set p (.dic []))
theorem de_dicR : DE X (.Dict [] [] pos) tDicR := pe_dnewK.imp fun σ H Q ⟨G, σd, S, Qd, rs, rh, t, p⟩ => fun q hq => by
  obtain ⟨r', f'⟩ := rh.newR (o := .dic []) (ho := .dK []) hq ⟨[], upd_same, .nil⟩
  exact p _ _ _ _ f' r' (.ref q) (t q (rh.fresh hq).1)
end
/-! ### {k: v for ..}, frozen -/
def dcD (g : TGD) (tt : TTD) (tk tv : TED) (σ : SD) (keep : HD → Prop) (Q : List (D × D) → HD → Prop) : List D → List (D × D) → HD → Prop
  | [], acc, S => keep S ∧ Q acc S
  | d :: r, acc, S => keep S ∧ g d σ S fun σ2 S2 => tt σ2 S2 fun b S3 => if b = true then tk σ2 S3 fun y S4 => tv σ2 S4 fun z S5 => match keyOf y with
      | some k => dcD g tt tk tv σ keep Q r (putD acc k z) S5
      | none => False
    else dcD g tt tk tv σ keep Q r acc S3
def tDcV (ti : TID) (g : TGD) (tt : TTD) (tk tv : TED) (vs : List Nat) : TED := fun σ S Q => ti σ S fun xs keep S1 => xs.length ≤ sizeLine ∧ dcD g tt tk tv (wipeD σ vs) keep (fun acc S2 => Q (.dic acc) S2) xs [] S1
theorem putD_len (acc : List (D × D)) (k : Key) (z : D) : (putD acc k z).length ≤ acc.length + 1 := by
  unfold putD
  split <;> simp
section
variable {X : Cx} {kx vx tg iter : Expr} {ifs : List Expr} {scope : Scope} {own : List (Str × Nat)} {pos : Pos} {ti : TID} {g : TGD} {tt : TTD} {tk tv : TED}
theorem dc_up {K : PySem.W.Frag} {vs : List Nat} {G : Addr → Prop} {S1 : HD} {H1 : Hp} {σd : SD} {σ : L2.St} {J : It} {xs : List D} {keep : HD → Prop} {Qd : List (D × D) → HD → Prop} {Q : VK}
    (rs1 : RSl K G S1 H1 σd σ) (rh1 : RH K G S1 H1) (hJ : ∀ G' S2 H2, Mv G S1 H1 G' S2 H2 → RH K G' S2 H2 → ItOk K G' S2 H2 J xs keep) (hz : xs.length ≤ sizeLine)
    (t : dcD g tt tk tv (wipeD σd vs) keep Qd xs [] S1) {p : Addr} (hp : H1 p = none)
    (fin : ∀ S2 H2 accd acc, FL S1 H1 S2 H2 → RH K (Res G p) S2 H2 → H2 p = some (.dK acc) → RDk K (Res G p) S2 H2 accd acc → Qd accd S2 → Q (.ref p) H2) :
    ∃ W : Nat → Nat → Hp → Prop, (∃ m, W 0 m (upd H1 p (.dK []))) ∧ ∀ i m H, W i m H →
      (J.stop i H ∧ Q (.ref p) H) ∨ (J.go i H ∧ ∃ Nx : Hp → Prop, (∀ H', Nx H' → ∃ m', m' < m ∧ W (i + 1) m' H') ∧ ∀ x H', J.yld i H x H' → upGw K vs g x (wipe σ vs) H' fun σ2 H2 => wipe σ2 vs = wipe σ vs ∧ upT K tt σ2 H2 fun b H3 =>
        if b = true then up K tk σ2 H3 fun y H4 => up K tv σ2 H4 fun z H5 => ∃ kvs k, y = kV k ∧ H5 p = some (.dK kvs) ∧ kvs.length < sizeLine ∧ Nx (upd H5 p (.dK (putK kvs k z))) else Nx H3) := by
  have wipe2 : ∀ (us : List Nat) (τ : L2.St), wipe (wipe τ us) us = wipe τ us := by
    intro us τ
    have key : ∀ (ws : List Nat) (τ : L2.St), (∀ u ∈ us, u ∈ ws) → wipe (wipe τ us) ws = wipe τ ws := by
      induction us with
      | nil => intro ws τ _; rfl
      | cons u us ih =>
        intro ws τ h
        show wipe ((wipe τ us).set u none) ws = _
        rw [wipe_set (h u List.mem_cons_self)]
        exact ih ws τ fun v hv => h v (List.mem_cons_of_mem _ hv)
    exact key us τ fun _ h => h
  refine ⟨fun i m H => m = xs.length - i ∧ i ≤ xs.length ∧ ∃ S2 accd acc, FL S1 H1 S2 H ∧ RH K (Res G p) S2 H ∧ H p = some (.dK acc) ∧ RDk K (Res G p) S2 H accd acc ∧ RSl K (Res G p) S2 H (wipeD σd vs) (wipe σ vs) ∧ acc.length ≤ i ∧ dcD g tt tk tv (wipeD σd vs) keep Qd (xs.drop i) accd S2,
    ⟨xs.length, by simp, Nat.zero_le _, S1, [], [], (Grow.upd hp).fl, rh1.res hp _, upd_same, .nil, (rs1.wipe vs).mv (res_in hp), Nat.zero_le _, t⟩, ?_⟩
  rintro i m H ⟨rfl, hi, S2, accd, acc, f2, rh2, hacc, racc, rsl2, hlen, t2⟩
  have ok := hJ (Res G p) S2 H ⟨fun a o e z => let ⟨n1, n2, n3⟩ := f2.kp a o e z.1 z.2.1; ⟨⟨n1, n2, fun g => g.elim z.2.2 (ne_of_none e hp)⟩, n3⟩, f2.dk⟩ rh2
  by_cases hlt : i < xs.length
  · have hx : xs[i]? = some xs[i] := by simp [hlt]
    rw [List.drop_eq_getElem_cons hlt] at t2
    obtain ⟨k2, t2⟩ := t2
    obtain ⟨go, yl⟩ := ok.go i _ S2 H hx (.refl _ _) rh2 k2
    refine .inr ⟨go, fun H' => ∃ S2 accd acc, FL S1 H1 S2 H' ∧ RH K (Res G p) S2 H' ∧ H' p = some (.dK acc) ∧ RDk K (Res G p) S2 H' accd acc ∧ RSl K (Res G p) S2 H' (wipeD σd vs) (wipe σ vs) ∧ acc.length ≤ i + 1 ∧ dcD g tt tk tv (wipeD σd vs) keep Qd (xs.drop (i + 1)) accd S2, fun H' n => ⟨_, by omega, rfl, hlt, n⟩, fun x H3 y => ?_⟩
    obtain ⟨f3, rh3, q3⟩ := yl x H3 y
    have pk : ∀ {S5 : HD} {H5 : Hp}, FL S2 H S5 H5 → H5 p = some (.dK acc) := fun {S5 H5} f => (f.kp p _ hacc (RH.resFree rh2).1 (RH.resFree rh2).2).2.2
    refine ⟨Res G p, _, S2, _, _, rsl2.fl f3, rh3, q3, t2, fun S4 σd4 σ4 H4 f4 rh4 rs4 w4 t4 => ⟨?_, ?_⟩⟩
    · rw [wipe2] at w4; exact w4
    refine ⟨Res G p, σd4, S4, _, rs4, rh4, t4, fun S5 b H5 f5 rh5 t5 => ?_⟩
    have f25 := f3.trans (f4.trans f5)
    have f15 := f2.trans f25
    cases b with
    | false =>
      refine iteF ?_
      rw [if_neg Bool.false_ne_true] at t5
      exact ⟨S5, accd, acc, f15, rh5, pk f25, racc.mv f25.mv, rsl2.fl f25, Nat.le_succ_of_le hlen, t5⟩
    | true =>
      refine iteT ?_
      rw [if_pos rfl] at t5
      refine ⟨Res G p, σd4, S5, _, rs4.fl f5, rh5, t5, fun S6 dk vk H6 f6 rh6 q6 t6 => ?_⟩
      refine ⟨Res G p, σd4, S6, _, (rs4.fl f5).fl f6, rh6, t6, fun S7 d v H7 f7 rh7 q7 t7 => ?_⟩
      split at t7
      · rename_i k ek
        have f27 := f25.trans (f6.trans f7)
        have hl : acc.length < sizeLine := by omega
        have ll : (putK acc k v).length ≤ i + 1 := by have := length_putK acc k v; omega
        refine ⟨acc, k, key_v ek q6, pk f27, hl, S7, putD accd k d, putK acc k v, (f2.trans f27).updp hp, rh7.resW _, upd_same, (rdk_put k q7 (racc.mv f27.mv)).mv res_mv, (rsl2.fl f27).mv res_mv, ll, t7⟩
      · exact t7.elim
  · have e : i = xs.length := by omega
    subst e
    rw [List.drop_length] at t2
    exact .inl ⟨ok.stop S2 H (.refl _ _) rh2 t2.1, fin S2 H accd acc f2 rh2 hacc racc t2.2⟩
theorem de_dcV (hN : X.N.Nodup) (hi : DI X tg iter ti) (ok : BlkOk X.N X.env.scope scope own)
    (hg : ∀ (s : Shared) (H : Hp) (C : Addr) (cl : List (Str × Addr)) (fp : List Addr), DGw (X.blk s H scope (compEnvC scope cl C X.env) fp) (own.map (·.2)) tg g) (ht : ∀ (s : Shared) (H : Hp) (C : Addr) (cl : List (Str × Addr)) (fp : List Addr), DTs (X.blk s H scope (compEnvC scope cl C X.env) fp) ifs tt)
    (hk : ∀ (s : Shared) (H : Hp) (C : Addr) (cl : List (Str × Addr)) (fp : List Addr), DE (X.blk s H scope (compEnvC scope cl C X.env) fp) kx tk)
    (he : ∀ (s : Shared) (H : Hp) (C : Addr) (cl : List (Str × Addr)) (fp : List Addr), DE (X.blk s H scope (compEnvC scope cl C X.env) fp) vx tv) (hc : X.calm = true := by rfl) (hs : ∀ x, foldedSetIterable iter X.env x = pure x := by intro _; rfl) :
    DE X (.DictComp kx vx [⟨tg, iter, ifs, 0⟩] scope pos) (tDcV ti g tt tk tv (own.map (·.2))) :=
  (pe_dc hc hN hi ok hg ht hk he hs).imp fun σ H Q ⟨G, σd, S, Qd, rs, rh, t, p⟩ =>
    ⟨G, σd, S, _, rs, rh, t, fun S1 J xs keep H1 f1 rh1 hJ ⟨hz, t1⟩ q hq => dc_up (rs.fl f1) rh1 hJ hz t1 hq fun S2 H2 accd acc f2 rh2 hacc racc qd =>
      p S2 _ _ H2 (f1.trans f2) rh2.resOut (.dic ⟨⟨(RH.resFree rh2).1, (RH.resFree rh2).2, fun g => by
        obtain ⟨⟨o, e⟩, _⟩ := rh1.rs q g
        rw [hq] at e; cases e⟩, .inl hacc⟩ (racc.mv res_out)) qd⟩
end
end PD
end

section
/-! PD24: name = {k: v for ..}; [::-1] of any. -/
namespace PD
open PySem PySem.Spec PyProof.Rows L2
section
variable {X : Cx} {kx vx tg iter e : Expr} {ifs : List Expr} {scope : Scope} {own : List (Str × Nat)} {pos py spos : Pos} {y : Str}
theorem sw_dict {l : Nat} {env : Env} {gs : List Comprehension} (hk : env.scope.kind = .function) (hy : env.scope.names.lookup y = some .local) (hl : (py.line == pos.line) = true) (ha : (scope.names.any fun (n, k) => n == y && (k == .local || k == .cell)) = false) :
    swapsWith (.DictComp kx vx gs scope pos) (some (.Name y py)) l env = pure true := by
  have ky : env.kindOf y = some .local := hy
  have hb : env.blockKind = .function := by unfold Env.blockKind; rw [hk]; rfl
  unfold swapsWith
  simp only [hb, ky, ha, Expr.pos, hl]
  rfl
theorem ps_setDc {i : Nat} {wi : TI} {g : TG} {tt : TT} {tk tv : TE} (hc : X.calm = true) (hN : X.N.Nodup) (hy : X.N[i]? = some y) (hyl : X.env.scope.names.lookup y = some .local)
    (hsw : swapsWith (.DictComp kx vx [⟨tg, iter, ifs, 0⟩] scope pos) (some (.Name y py)) spos.line X.env = pure true) (hi : PI X tg iter wi) (ok : BlkOk X.N X.env.scope scope own)
    (hg : ∀ (s : Shared) (H : Hp) (C : Addr) (cl : List (Str × Addr)) (fp : List Addr), PG (X.blk s H scope (compEnvC scope cl C X.env) fp) tg g) (ht : ∀ (s : Shared) (H : Hp) (C : Addr) (cl : List (Str × Addr)) (fp : List Addr), PTs (X.blk s H scope (compEnvC scope cl C X.env) fp) ifs tt)
    (hk : ∀ (s : Shared) (H : Hp) (C : Addr) (cl : List (Str × Addr)) (fp : List Addr), PE (X.blk s H scope (compEnvC scope cl C X.env) fp) kx tk)
    (he : ∀ (s : Shared) (H : Hp) (C : Addr) (cl : List (Str × Addr)) (fp : List Addr), PE (X.blk s H scope (compEnvC scope cl C X.env) fp) vx tv) (hs : ∀ x, foldedSetIterable iter X.env x = pure x := by intro _; rfl) :
    PS X (.Assign [.Name y py] (.DictComp kx vx [⟨tg, iter, ifs, 0⟩] scope pos) spos) (tAsg (tDc wi g tt tk tv (own.map (·.2))) (gName i)) := by
  refine ⟨fun pins s σ H D I h => ?_⟩
  rw [exec_Assign_Name_used _ _ _ _ hsw]
  refine wpAny_bind (wpAny_standAt (wpAny_bind ?_))
  show wpAny _ X.A (do let _ ← comprehension (.DictComp kx vx [⟨tg, iter, ifs, 0⟩] scope pos) scope X.env (firstIterPos [⟨tg, iter, ifs, 0⟩] pos) newDict false (eval iter X.env) (some (assign (.Name y py) X.env))) _ _ s
  have h' : tDc wi g tt tk tv (own.map (·.2)) σ H (fun x H1 => gName i x σ H1 D.nx) := h
  refine wpAny_bind (thn (dc_core (Qf := fun _ s' => SP X pins D .next s') hc hN I hi ok hg ht hk he hs h' fun L C s' m H' I' q hn f => ?_) fun _ s' hq => wpAny_pure (wpAny_pure hq))
  show wpAny _ _ (assign (.Name y py) X.env (.ref L)) _ _ _
  refine wpAny_assign_Name (store_ok2 (v := V.ref L) I' hN hy (.inl hyl) rfl (fun s2 I2 ⟨a, sb, ha⟩ => ?_) (.inr hyl))
  obtain ⟨f0, f1, f2, f3, f4, f5⟩ := f
  have haC : C ≠ a := ha.elim (fun z => by rw [z]; exact f1) fun z e => f4 y a z e.symm
  exact ⟨m, hn.sameBut sb haC, fun h3 sb3 => ⟨_, H', I2.turned (t' := s2.toks) (fun b o hb e => (sb3.2 b hb).trans e) f0 f1 f3 f4 f5, q⟩⟩
theorem ds_setDcV (i : Nat) {ti : TID} {g : TGD} {tt : TTD} {tk tv : TED} (hN : X.N.Nodup) (hi : DI X tg iter ti) (ok : BlkOk X.N X.env.scope scope own)
    (hg : ∀ (s : Shared) (H : Hp) (C : Addr) (cl : List (Str × Addr)) (fp : List Addr), DGw (X.blk s H scope (compEnvC scope cl C X.env) fp) (own.map (·.2)) tg g) (ht : ∀ (s : Shared) (H : Hp) (C : Addr) (cl : List (Str × Addr)) (fp : List Addr), DTs (X.blk s H scope (compEnvC scope cl C X.env) fp) ifs tt)
    (hk : ∀ (s : Shared) (H : Hp) (C : Addr) (cl : List (Str × Addr)) (fp : List Addr), DE (X.blk s H scope (compEnvC scope cl C X.env) fp) kx tk)
    (he : ∀ (s : Shared) (H : Hp) (C : Addr) (cl : List (Str × Addr)) (fp : List Addr), DE (X.blk s H scope (compEnvC scope cl C X.env) fp) vx tv) (hy : X.N[i]? = some y := by rfl) (hyl : X.env.scope.names.lookup y = some .local := by rfl)
    (hsw : swapsWith (.DictComp kx vx [⟨tg, iter, ifs, 0⟩] scope pos) (some (.Name y py)) spos.line X.env = pure true := by exact sw_dict rfl rfl rfl (by decide +kernel)) (hc : X.calm = true := by rfl) (hs : ∀ x, foldedSetIterable iter X.env x = pure x := by intro _; rfl) :
    DS X (.Assign [.Name y py] (.DictComp kx vx [⟨tg, iter, ifs, 0⟩] scope pos) spos) (sAsgD (tDcV ti g tt tk tv (own.map (·.2))) (gNameD i)) :=
  (ps_setDc hc hN hy hyl hsw hi ok hg ht hk he hs).imp fun E σ H ⟨G, σd, S, Dd, rs, rh, t, p⟩ =>
    ⟨G, σd, S, _, rs, rh, t, fun S1 J xs keep H1 f1 rh1 hJ ⟨hz, t1⟩ q hq => dc_up (Q := fun x H2 => gName i x σ H2 E.nx) (rs.fl f1) rh1 hJ hz t1 hq fun S2 H2 accd acc f2 rh2 hacc racc qd =>
      p.nx S2 _ _ H2 (f1.trans f2) rh2.resOut ((rs.fl (f1.trans f2)).set (d := .dic accd) (.dic ⟨⟨(RH.resFree rh2).1, (RH.resFree rh2).2, fun g => by
        obtain ⟨⟨o, e⟩, _⟩ := rh1.rs q g
        rw [hq] at e; cases e⟩, .inl hacc⟩ (racc.mv res_out)) i) (st_eq σd i _ ▸ qd)⟩
/-- [::-1] of a tuple or of a list -/
def tRevX (te : TED) : TED := fun σ S Q => tRevTD te σ S Q ∨ tRevLD te σ S Q
theorem de_rev {te : TED} {k : Nat} {p1 p2 p3 : Pos} (he : DE X e te) : DE X (.Subscript e (.Slice none none (some (.UnaryOp .USub (.Constant (.int 1) k p1) p2)) p3) pos) (tRevX te) :=
  ⟨fun pins s σ H Q I ⟨G, σd, S, Qd, rs, rh, t, p⟩ => t.elim (fun t => (de_revT he).run pins s σ H Q I ⟨G, σd, S, Qd, rs, rh, t, p⟩) fun t => (de_revL he).run pins s σ H Q I ⟨G, σd, S, Qd, rs, rh, t, p⟩⟩
end
end PD
end

section
/-! PD25: None in d. -/
namespace PD
open PySem PySem.Spec PyProof.Rows L2
theorem leaf_keys {P : Program} {w : World} {es : Array DictEntry} (h : KeysOf (mixKind P w) es) : KeysOf (leafKind P w) es ∧ findBy (leafKind P w).is es Leaf.none = none := by
  have key : ∀ e ∈ es, (∃ k, (leafKind P w).is k e.key = true ∧ e.hash = (leafKind P w).hash k) ∧ (leafKind P w).is Leaf.none e.key = false := fun e he => by
    obtain ⟨k, h1, h2⟩ := h e he
    have h1' : keyIs k e.key = true := h1
    have h2' : e.hash = keyH w k := h2
    rcases keyIs_shape h1' with ⟨i, t, e1, e2⟩ | ⟨x, t, e1, e2⟩
    · subst e1
      rw [e2]
      exact ⟨⟨.num i, decide_eq_true rfl, h2'⟩, rfl⟩
    · subst e1
      rw [e2]
      exact ⟨⟨.text x, keyIs_str x t, h2'⟩, rfl⟩
  refine ⟨fun e he => (key e he).1, ?_⟩
  unfold findBy
  rw [Array.find?_eq_none.mpr fun e he => by rw [(key e he).2]; exact Bool.false_ne_true]
  rfl
section
variable {X : Cx} {a b : Expr} {ta tb : TED} {pos : Pos}
def rNoneIn (neg : Bool) : R2 := fun x y H Q => ∃ a kvs, x = .non ∧ y = .ref a ∧ Rd H a (.dK kvs) ∧ Q (.bl neg) H
theorem none_map {pins : List (Addr × Obj)} {σ : L2.St} {H : Hp} {s : Shared} (I : Inv X pins σ H s) {a : Addr} {kvs : List (Key × V)} (h : Rd H a (.dK kvs)) : (a == sysModules) = false ∧ ∃ f, s.heap.MapOf (leafKind X.prog X.w) a f ∧ f Leaf.none = none := by
  obtain ⟨_, hd, vs, _, o, es, ep, h1, h2, h3, h4, _⟩ := dk_rd I.hok h
  obtain ⟨k1, k2⟩ := leaf_keys h4
  exact ⟨hd, _, ⟨o, es, ep, h1, h2, h3, k1, fun _ => rfl⟩, k2⟩
theorem op_noneIn : OpR X (compareOp .In) (rNoneIn false) := by
  intro pins s σ H x y v u Q I rx ry ⟨a, kvs, e1, e2, h, q⟩
  subst e1 e2
  obtain rfl : v = Value.none := rx
  obtain rfl : u = Value.ref a := ry
  obtain ⟨hd, f, hm, hf⟩ := none_map I h
  refine wpAny_in_of (knd := leafKind X.prog X.w) (k := Leaf.none) rfl hd hm ?_
  rw [hf]
  exact ⟨.bl false, H, I.tok _, rfl, q⟩
theorem op_noneNotIn : OpR X (compareOp .NotIn) (rNoneIn true) := by
  intro pins s σ H x y v u Q I rx ry ⟨a, kvs, e1, e2, h, q⟩
  subst e1 e2
  obtain rfl : v = Value.none := rx
  obtain rfl : u = Value.ref a := ry
  obtain ⟨hd, f, hm, hf⟩ := none_map I h
  refine wpAny_notIn_of (knd := leafKind X.prog X.w) (k := Leaf.none) rfl hd hm ?_
  rw [hf]
  exact ⟨.bl true, H, I.tok _, rfl, q⟩
def rInY (neg : Bool) : R2D := fun x y S Q => match x, asDic S y with
  | .non, some _ => Q (.bl neg) S
  | x, _ => rInX neg x y S Q
theorem inY2 {K : PySem.W.Frag} (neg : Bool) : Op2 K (fun x y H Q => (rIn K neg x y H Q ∨ rDIn neg x y H Q) ∨ rNoneIn neg x y H Q) (rInY neg) := fun G S H d1 d2 v1 v2 Qd Q rh q1 q2 t p => by
  unfold rInY at t
  split at t
  · rename_i kds e
    obtain ⟨a, kvs, rfl, r0, r⟩ := asDic_ok rh e q2
    cases q1
    exact .inr ⟨a, kvs, rfl, rfl, r0, p.here rh (.bl _) t⟩
  · exact .inl (inX2 neg G S H _ _ v1 v2 Qd Q rh q1 q2 t p)
theorem de_inY {k : Nat} (hr : RoomG k X.A) (ha : DE X a ta) (hb : DE X b tb) (hm : behindInMarks .In b = false := by rfl) : DE X (.Compare a [.In] [b] pos) (tBin (rInY false) ta tb) := de_cmp ((op_in_seq.or (op_inD hr.un1)).or op_noneIn) (inY2 false) ha hb hm
theorem de_notInY {k : Nat} (hr : RoomG k X.A) (ha : DE X a ta) (hb : DE X b tb) (hm : behindInMarks .NotIn b = false := by rfl) : DE X (.Compare a [.NotIn] [b] pos) (tBin (rInY true) ta tb) := de_cmp ((op_notIn_seq.or (op_notInD hr.un1)).or op_noneNotIn) (inY2 true) ha hb hm
theorem dt_inY {k : Nat} (hr : RoomG k X.A) (ha : DE X a ta) (hb : DE X b tb) (hm : behindInMarks .In b = false := by rfl) : DT X (.Compare a [.In] [b] pos) (tTst (tBin (rInY false) ta tb)) := dt_cmp ((op_in_seq.or (op_inD hr.un1)).or op_noneIn) (inY2 false) ha hb hm
theorem dt_notInY {k : Nat} (hr : RoomG k X.A) (ha : DE X a ta) (hb : DE X b tb) (hm : behindInMarks .NotIn b = false := by rfl) : DT X (.Compare a [.NotIn] [b] pos) (tTst (tBin (rInY true) ta tb)) := dt_cmp ((op_notIn_seq.or (op_notInD hr.un1)).or op_noneNotIn) (inY2 true) ha hb hm
end
end PD
end

section
/-! PD26: instances of own classes: fields, methods, making. -/
namespace PD
open PySem PySem.Spec PyProof.Rows L2
theorem lookup_rel {K : PySem.W.Frag} {G : Addr → Prop} {S : HD} {H : Hp} {f : Str} {d : D} : ∀ {fs : List (Str × D)} {vs : List (Str × V)}, fs.map (·.1) = vs.map (·.1) → RDs K G S H (fs.map (·.2)) (vs.map (·.2)) → fs.lookup f = some d → ∃ v, vs.lookup f = some v ∧ RD K G S H d v
  | [], _, _, _, l => by cases l
  | (x, e) :: fs, [], k, _, _ => by cases k
  | (x, e) :: fs, (y, v) :: vs, k, r, l => by
    simp only [List.map_cons, List.cons.injEq] at k
    obtain ⟨rfl, k⟩ := k
    simp only [List.map_cons] at r
    cases r with
    | cons q r =>
      rw [List.lookup_cons] at l ⊢
      cases hb : f == x with
      | true => rw [hb] at l; cases l; exact ⟨v, by simp, q⟩
      | false => rw [hb] at l; exact lookup_rel k r l
theorem lookup_none {f : Str} : ∀ {fs : List (Str × D)} {vs : List (Str × V)}, fs.map (·.1) = vs.map (·.1) → fs.lookup f = none → vs.lookup f = none
  | [], [], _, _ => rfl
  | [], _ :: _, k, _ => by cases k
  | (x, e) :: fs, [], k, _ => by cases k
  | (x, e) :: fs, (y, v) :: vs, k, l => by
    simp only [List.map_cons, List.cons.injEq] at k
    obtain ⟨rfl, k⟩ := k
    rw [List.lookup_cons] at l ⊢
    cases hb : f == x with
    | true => rw [hb] at l; cases l
    | false => rw [hb] at l; exact lookup_none k l
/-- e.f of an instance of C -/
def fldD (C : Addr) (f : Str) (x : D) (S : HD) (Q : QD) : Prop := match x with
  | .ref a => (match S.hp a with
    | some (.ins C' fs) => C' = C ∧ (match fs.lookup f with | some d => Q d S | none => False)
    | _ => False)
  | _ => False
def tFldD (C : Addr) (f : Str) (te : TED) : TED := fun σ S Q => te σ S fun x S1 => fldD C f x S1 Q
section
variable {X : Cx} {C : Addr} {f m : Str} {e o : Expr} {te to : TED} {pos apos p : Pos}
theorem de_fld (hc : Cls X.K C) (hn : NoAttr X.K C f) (he : DE X e te) (hb : attributeBase e f X.env (eval e X.env) = eval e X.env := by rfl) : DE X (.Attribute e f pos) (tFldD C f te) :=
  (pe_fld he hb).imp fun σ H Q ⟨G, σd, S, Qd, rs, rh, t, p⟩ => ⟨G, σd, S, _, rs, rh, t, fun S1 d v H1 f1 rh1 q1 t1 => by
    unfold fldD at t1
    split at t1
    · rename_i a
      split at t1
      · rename_i C' fs e1
        obtain ⟨rfl, t2⟩ := t1
        split at t2
        · rename_i d' e2
          obtain ⟨h1, h2, dx, vs, h3, h4, h5⟩ := rh1.hp a _ e1
          cases q1
          obtain ⟨v', l1, q⟩ := lookup_rel h4 h5 e2
          exact ⟨a, C', dx, vs, v', rfl, h3, hc, hn, l1, (p.fl f1).here rh1 q t2⟩
        · exact t2.elim
      · exact t1.elim
    · exact t1.elim⟩
/-- a method of a class -/
structure HasM (P : Program) (w : World) (K : PySem.W.Frag) (mg : Str → Option Value) (base : Heap) (k : Nat) (C : Addr) (m : Str) (ps : List Str) (sp : SpD) : Prop where
  ex : ∃ f fd, Meth K C m f ∧ Binds K fd ps [] ∧ FnD P w K mg base k f fd ps sp
theorem HasM.mono {P : Program} {w : World} {K : PySem.W.Frag} {mg : Str → Option Value} {base : Heap} {j k : Nat} {C : Addr} {m : Str} {ps : List Str} {sp : SpD} (h : HasM P w K mg base j C m ps sp) (l : j ≤ k) : HasM P w K mg base k C m ps sp :=
  let ⟨f, fd, a, b, c⟩ := h.ex; ⟨f, fd, a, b, c.mono l⟩
def methD (C : Addr) (m : Str) (x : D) (S : HD) (P : Prop) : Prop := match x with
  | .ref a => (match S.hp a with
    | some (.ins C' fs) => C' = C ∧ fs.lookup m = none ∧ P
    | _ => False)
  | _ => False
def tMethC (C : Addr) (m : Str) (sp : SpD) (to : TED) (ta : TAD) : TED := fun σ S Q => to σ S fun x S1 => methD C m x S1 (ta σ S1 fun ds S2 => sp (x :: ds) S2 Q)
variable {k : Nat} {ps : List Str} {sp : SpD} {es : List Expr} {ta : TAD}
theorem methD_ok {x : D} {S : HD} {P : Prop} (t : methD C m x S P) : ∃ a fs, x = .ref a ∧ S.hp a = some (.ins C fs) ∧ fs.lookup m = none ∧ P := by
  unfold methD at t
  split at t
  · rename_i a
    split at t
    · rename_i C' fs e1
      obtain ⟨rfl, l, t2⟩ := t
      exact ⟨a, fs, rfl, e1, l, t2⟩
    · exact t.elim
  · exact t.elim
theorem de_methC {pl : Sem Bool} (hc : Cls X.K C) (h : HasM X.prog X.w X.K X.mg X.base k C m ps sp) (hr : RoomG k X.A) (ho : DE X o to) (ha : DA X (e :: es) ta)
    (hst : starEach (e :: es) X.env = (false, eval e X.env) :: starEach es X.env := by rfl) (hpl : (backTo pos (starEach es X.env)).any (·.1) = false := by rfl)
    (ht : eval (.Call (.Attribute o m apos) (e :: es) [] pos) X.env = (do
      let ov ← eval o X.env
      standAt apos.atName
      let (f, first) ← holding [ov] (getMethod ov m pl)
      callWith pos f first (backTo pos (starEach (e :: es) X.env)) (backToKw pos (keywordEach [] X.env))) := by rfl) :
    DE X (.Call (.Attribute o m apos) (e :: es) [] pos) (tMethC C m sp to ta) := by
  obtain ⟨f, fd, hm, hb, F⟩ := h.ex
  refine ⟨fun pins s σ H Q I ⟨G, σd, S, Qd, rs, rh, t, p⟩ => ?_⟩
  have hO := ho.run pins s σ H (fun v H1 => ∃ S1 d, FL S H S1 H1 ∧ RH X.K G S1 H1 ∧ RD X.K G S1 H1 d v ∧ methD C m d S1 (ta σd S1 fun ds S2 => sp (d :: ds) S2 Qd)) I ⟨G, σd, S, _, rs, rh, t, fun S1 d v H1 f1 rh1 q1 t1 => ⟨S1, d, f1, rh1, q1, t1⟩⟩
  refine PySem.W.methodCall_KW (pl := pl) (thn hO fun u s1 ⟨v, H1, I1, rv, S1, d, f1, rh1, q1, t1⟩ => ?_) ht
  obtain ⟨a, fs, rfl, e1, l, t2⟩ := methD_ok t1
  obtain ⟨h1, h2, dx, vs, h3, h4, h5⟩ := rh1.hp a _ e1
  cases q1
  obtain rfl : u = Value.ref a := rv
  refine getmeth_ok I1 h3 hc hm (lookup_none h4 l) ?_
  have hA := ha.run pos pins s1 σ H1 (fun vs H2 => ∃ S2 ds, FL S1 H1 S2 H2 ∧ RH X.K G S2 H2 ∧ RDs X.K G S2 H2 ds vs ∧ sp (.ref a :: ds) S2 Qd) I1 ⟨G, σd, S1, _, rs.fl f1, rh1, t2, fun S2 ds vs H2 f2 rh2 q2 t3 => ⟨S2, ds, f2, rh2, q2, t3⟩⟩
  refine PySem.W.callWith_K (first := [.ref a]) (h₀ := X.base) I.ok.mod.kin hm.kp (thn hA fun us s2 ⟨vs2, H2, I2, r, S2, ds, f2, rh2, q2, t3⟩ => ⟨I2.kIn, ?_⟩) hst hpl
  exact run_fnD (us := .ref a :: us) (vs := .ref a :: vs2) F hr hb I2 (.cons rfl r) (.cons (.ref a) q2) rh2 t3 (p.fl (f1.trans f2))
theorem de_methC0 {pl : Sem Bool} (hc : Cls X.K C) (h : HasM X.prog X.w X.K X.mg X.base k C m ps sp) (hr : RoomG k X.A) (ho : DE X o to)
    (ht : eval (.Call (.Attribute o m apos) [] [] pos) X.env = (do
      let ov ← eval o X.env
      standAt apos.atName
      let (f, first) ← holding [ov] (getMethod ov m pl)
      callWith pos f first (backTo pos (starEach [] X.env)) (backToKw pos (keywordEach [] X.env))) := by rfl) :
    DE X (.Call (.Attribute o m apos) [] [] pos) (tMethC C m sp to tNilD) := by
  obtain ⟨f, fd, hm, hb, F⟩ := h.ex
  refine ⟨fun pins s σ H Q I ⟨G, σd, S, Qd, rs, rh, t, p⟩ => ?_⟩
  have hO := ho.run pins s σ H (fun v H1 => ∃ S1 d, FL S H S1 H1 ∧ RH X.K G S1 H1 ∧ RD X.K G S1 H1 d v ∧ methD C m d S1 (sp [d] S1 Qd)) I ⟨G, σd, S, _, rs, rh, t, fun S1 d v H1 f1 rh1 q1 t1 => ⟨S1, d, f1, rh1, q1, t1⟩⟩
  refine PySem.W.methodCall_KW (pl := pl) (thn hO fun u s1 ⟨v, H1, I1, rv, S1, d, f1, rh1, q1, t1⟩ => ?_) ht
  obtain ⟨a, fs, rfl, e1, l, t2⟩ := methD_ok t1
  obtain ⟨h1, h2, dx, vs, h3, h4, h5⟩ := rh1.hp a _ e1
  cases q1
  obtain rfl : u = Value.ref a := rv
  refine getmeth_ok I1 h3 hc hm (lookup_none h4 l) ?_
  exact PySem.W.callWith_K0 (first := [.ref a]) I1.kIn hm.kp (run_fnD (us := [.ref a]) (vs := [.ref a]) F hr hb I1 (.cons rfl .nil) (.cons (.ref a) .nil) rh1 t2 (p.fl f1))
end
end PD
end

section
/-! PD27: instances: a field is set; making one. -/
namespace PD
open PySem PySem.Spec PyProof.Rows L2
def putFD (f : Str) (v : D) : List (Str × D) → List (Str × D)
  | [] => [(f, v)]
  | (g, x) :: r => if g = f then (g, v) :: r else (g, x) :: putFD f v r
theorem putF_rel {K : PySem.W.Frag} {G : Addr → Prop} {S : HD} {H : Hp} {f : Str} {d : D} {v : V} (q : RD K G S H d v) : ∀ {fs : List (Str × D)} {vs : List (Str × V)}, fs.map (·.1) = vs.map (·.1) → RDs K G S H (fs.map (·.2)) (vs.map (·.2)) → (putFD f d fs).map (·.1) = (putF f v vs).map (·.1) ∧ RDs K G S H ((putFD f d fs).map (·.2)) ((putF f v vs).map (·.2))
  | [], [], _, _ => ⟨rfl, .cons q .nil⟩
  | [], _ :: _, k, _ => by cases k
  | (x, e) :: fs, [], k, _ => by cases k
  | (x, e) :: fs, (y, w) :: vs, k, r => by
    simp only [List.map_cons, List.cons.injEq] at k
    obtain ⟨rfl, k⟩ := k
    simp only [List.map_cons] at r
    cases r with
    | cons q1 r =>
      obtain ⟨i1, i2⟩ := putF_rel q k r
      unfold putFD putF
      by_cases h : x = f
      · rw [if_pos h, if_pos h]
        exact ⟨by simp only [List.map_cons, k], .cons q r⟩
      · rw [if_neg h, if_neg h]
        exact ⟨by simp only [List.map_cons, i1], .cons q1 i2⟩
theorem RH.writeI {K : PySem.W.Frag} {G : Addr → Prop} {S : HD} {H : Hp} (rh : RH K G S H) {a C dx : Addr} {fs gs : List (Str × D)} {ws : List (Str × V)} (h : S.hp a = some (.ins C fs)) (k : gs.map (·.1) = ws.map (·.1)) (r : RDs K G S H (gs.map (·.2)) (ws.map (·.2))) :
    RH K G (S.set a (.ins C gs)) (upd H a (.ins C dx ws)) ∧ FL S H (S.set a (.ins C gs)) (upd H a (.ins C dx ws)) := by
  have m : Mv G S H G (S.set a (.ins C gs)) (upd H a (.ins C dx ws)) := ⟨fun b o e z => by
    have ne : b ≠ a := fun q => by rw [← q, z.1] at h; cases h
    exact ⟨⟨by rw [HD.set_ne ne]; exact z.1, z.2.1, z.2.2⟩, by rw [upd_ne ne]; exact e⟩, fun _ e => e⟩
  exact rh.write h ⟨dx, ws, upd_same, k, r.mv m⟩
/-- o.f = v -/
def sFldD (C : Addr) (f : Str) (to tv : TED) : TSD := fun D σ S => tv σ S fun y S1 => to σ S1 fun x S2 => match x with
  | .ref a => (match S2.hp a with
    | some (.ins C' fs) => C' = C ∧ fs.length < 1000 ∧ D.nx σ (S2.set a (.ins C (putFD f y fs)))
    | _ => False)
  | _ => False
section
variable {X : Cx} {C : Addr} {f m : Str} {e o value : Expr} {te to tv : TED} {pos apos p pos' : Pos}
theorem ds_fld (hc : Cls X.K C) (hn : NoAttr X.K C f) (ho : DE X o to) (hv : DE X value tv) (hs : swapsWith value (some (.Attribute o f pos')) pos.line X.env = pure false := by rfl) :
    DS X (.Assign [.Attribute o f pos'] value pos) (sFldD C f to tv) :=
  (ps_fld ho hv hs).imp fun D σ H ⟨G, σd, S, Dd, rs, rh, t, p⟩ => ⟨G, σd, S, _, rs, rh, t, fun S1 y u H1 f1 rh1 q1 t1 => ⟨G, σd, S1, _, rs.fl f1, rh1, t1, fun S2 x v H2 f2 rh2 q2 t2 => by
    split at t2
    · rename_i a
      split at t2
      · rename_i C' fs e1
        obtain ⟨rfl, hl, t3⟩ := t2
        obtain ⟨h1, h2, dx, vs, h3, h4, h5⟩ := rh2.hp a _ e1
        obtain ⟨k1, k2⟩ := putF_rel (f := f) (q1.fl f2) h4 h5
        obtain ⟨rh3, f3⟩ := rh2.writeI (dx := dx) e1 k1 k2
        cases q2
        have hl2 : vs.length < 1000 := by
          have := congrArg List.length h4
          simp only [List.length_map] at this
          omega
        exact ⟨a, C', dx, vs, rfl, h3, hc, hn, hl2, (p.nx.fl (f1.trans (f2.trans f3))).here rh3 (rs.fl (f1.trans (f2.trans f3))) t3⟩
      · exact t2.elim
    · exact t2.elim⟩⟩
/-- C(..) -/
structure HasC (P : Program) (w : World) (K : PySem.W.Frag) (mg : Str → Option Value) (base : Heap) (k : Nat) (x : Str) (C : Addr) (ps : List Str) (sp : SpD) : Prop where
  ex : ∃ f fd, mg x = some (.ref C) ∧ Mk K C f ∧ Binds K fd ps [] ∧ FnD P w K mg base k f fd ps sp
def tMakeD (C : Addr) (sp : SpD) (ta : TAD) : TED := fun σ S Q => ta σ S fun ds S1 => ∀ p, S1.hp p = none → sp (.ref p :: ds) (S1.set p (.ins C [])) fun d S2 => d = .non ∧ Q (.ref p) S2
variable {k : Nat} {x : Str} {ps : List Str} {sp : SpD} {es : List Expr} {ta : TAD}
theorem RoomG.make {k : Nat} {A : Around} (r : RoomG (k + 1) A) (C : Addr) (us : List Value) : RoomG k (A.under (.builtin "type.__call__" ⟨.ref C :: us, []⟩)) := ⟨r.rm.make C us [], r.gd⟩
theorem run_makeD {f : Addr} {fd : FuncData} {pins : List (Addr × Obj)} {σ : L2.St} {H : Hp} {s : Shared} {us : List Value} {vs : List V} {ds : List D} {G : Addr → Prop} {S : HD} {Qd : QD} {Q : VK}
    (M : Mk X.K C f) (F : FnD X.prog X.w X.K X.mg X.base k f fd ps sp) (hr : RoomG (k + 1) X.A) (hb : Binds X.K fd ps []) (I : Inv X pins σ H s) (r : Vals vs us) (q : RDs X.K G S H ds vs) (rh : RH X.K G S H)
    (h : ∀ p, S.hp p = none → sp (.ref p :: ds) (S.set p (.ins C [])) fun d S2 => d = .non ∧ Qd (.ref p) S2) (p : Post X.K G S H Qd Q) :
    wpAny (model X.prog X.w) X.A (call (.ref C) us) (EP X pins σ Q) X.xe s := by
  have n1 : H s.heap.objs.size = none := I.hok.fresh (Nat.le_refl _)
  have n2 : H (s.heap.objs.size + 1) = none := I.hok.fresh (Nat.le_succ _)
  have ne : s.heap.objs.size + 1 ≠ s.heap.objs.size := Nat.succ_ne_self _
  obtain ⟨rh1, f1, _⟩ := rh.newF n1 (.own (s.heap.objs.size + 1))
  have n2' : upd H s.heap.objs.size (.own (s.heap.objs.size + 1)) (s.heap.objs.size + 1) = none := by rw [upd_ne ne]; exact n2
  obtain ⟨rh2, f2⟩ := rh1.newR n2' (o := .ins C []) (ho := .ins C s.heap.objs.size []) ⟨s.heap.objs.size, [], upd_same, rfl, .nil⟩
  have hq := h (s.heap.objs.size + 1) (rh1.fresh n2').1
  have I2 := Inv.made (C := C) I
  have q2 : RDs X.K G _ _ (.ref (s.heap.objs.size + 1) :: ds) (V.ref (s.heap.objs.size + 1) :: vs) := .cons (.ref _) (q.fl (f1.trans f2))
  have r2 : Vals (V.ref (s.heap.objs.size + 1) :: vs) (Value.ref (s.heap.objs.size + 1) :: us) := .cons rfl r
  have hl : (Value.ref (s.heap.objs.size + 1) :: us).length = ps.length := by
    have h1 := F.len _ _ _ hq
    have h2 := q.length
    have h3 := r.length
    simp only [List.length_cons] at h1 ⊢
    omega
  have hb' := hb _ (Value.ref (s.heap.objs.size + 1) :: us) I2.kIn (by rw [List.append_nil]; exact hl)
  rw [List.append_nil] at hb'
  refine wpAny_call (make_map (f := f) I.kIn M.makes M.init (beq_iff_eq.mp M.fn) (codeAny_mono (F.run _ X.stack _ _ ⟨Value.ref (s.heap.objs.size + 1) :: us, []⟩ (Value.ref (s.heap.objs.size + 1) :: us) _ _ G _ _ (hr.make C us)
    (I2.env0.make C us []) hb' r2 q2 rh2 hq) fun z s' hq' => ?_))
  cases z with
  | error e => exact False.elim hq'
  | ok fl =>
    cases fl with
    | ret u =>
      have hq2 : CE X.stack X.prog X.w (upd (upd H s.heap.objs.size (.own (s.heap.objs.size + 1))) (s.heap.objs.size + 1) (.ins C s.heap.objs.size [])) { s with heap := (s.heap.push PySem.W.emptyDict).push (PySem.W.instObj C s.heap.objs.size) } (fun v H' => v = .non ∧ Q (.ref (s.heap.objs.size + 1)) H') u s' := by
        obtain ⟨v, H', h1, h2, h3, h4, h5, S', d, f', rh', rd', e, qd⟩ := hq'
        subst e
        refine ⟨v, H', h1, h2, h3, h4, h5, by cases rd'; rfl, p _ _ (.ref _) _ ((f1.trans f2).trans f') rh' (.ref _) qd⟩
      obtain ⟨v, H', I3, rv, ev, q3⟩ := I2.after hq2
      subst ev
      exact ⟨rv, ⟨V.ref (s.heap.objs.size + 1), H', I3, rfl, q3⟩⟩
    | next => exact False.elim hq'
    | brk => exact False.elim hq'
    | cont => exact False.elim hq'
theorem de_make (h : HasC X.prog X.w X.K X.mg X.base k x C ps sp) (hr : RoomG (k + 1) X.A) (ha : DA X (e :: es) ta) (hg : Gl X x := by rfl) (hdb : (x == ("__debug__" : Str)) = false := by decide)
    (he : starEach (e :: es) X.env = (false, eval e X.env) :: starEach es X.env := by rfl) (hpl : (backTo pos (starEach es X.env)).any (·.1) = false := by rfl) :
    DE X (.Call (.Name x p) (e :: es) [] pos) (tMakeD C sp ta) := by
  obtain ⟨f, fd, hm, M, hb, F⟩ := h.ex
  refine ⟨fun pins s σ H Q I ⟨G, σd, S, Qd, rs, rh, t, p⟩ => ?_⟩
  refine wpAny_Call_Name_kw (ld_glob I hg hm ?_ hdb)
  have hA := ha.run pos pins s σ H (fun vs H1 => ∃ S1 ds, FL S H S1 H1 ∧ RH X.K G S1 H1 ∧ RDs X.K G S1 H1 ds vs ∧ ∀ p, S1.hp p = none → sp (.ref p :: ds) (S1.set p (.ins C [])) fun d S2 => d = .non ∧ Qd (.ref p) S2) I ⟨G, σd, S, _, rs, rh, t, fun S1 ds vs H1 f1 rh1 q1 t1 => ⟨S1, ds, f1, rh1, q1, t1⟩⟩
  refine PySem.W.callWith_K (h₀ := X.base) I.ok.mod.kin M.kp ?_ he hpl
  refine thn hA fun us s1 hus => ?_
  obtain ⟨vs, H1, I1, r, S1, ds, f1, rh1, q1, t1⟩ := hus
  exact ⟨I1.kIn, run_makeD M F hr hb I1 r q1 rh1 t1 (p.fl f1)⟩
end
end PD
end

section
/-! PD28: the classes and methods of the written part. -/
namespace PD
open PySem PySem.Spec PyProof.Rows L2
/-- a method of the class C -/
structure MetOf (K : PySem.W.Frag) (C : Addr) (m qual : Str) (st : Stmt) : Prop where
  ex : ∃ f fd, Fun K m qual st f fd ∧ Meth K C m f
theorem metOf_mk {m qual : Str} {K : PySem.W.Frag} {C : Addr} {st : Stmt} {f : Addr} {od an : Option Addr} {sl : Array (Option Value)} {oc kV dc pm cd ct : Value}
    (a : PySem.W.findIn K (.ref C) m = some (some (.ref f))) (l : K.lookup f = some ⟨oc, od, .func (PySem.W.fnOf m qual (defArgs st) (defBody st) (defScope st) .none kV dc pm an cd ct), sl⟩) (c : PySem.W.codeIn K cd qual = true) (k : PySem.W.keepIn K (.ref f) = true) (fn : PySem.W.isFn K (.ref f) = true) : MetOf K C m qual st :=
  ⟨⟨f, _, fun_mk (st := st) l c k, ⟨a, fn, k⟩⟩⟩
theorem HasM.of {P : Program} {w : World} {K : PySem.W.Frag} {mg : Str → Option Value} {base : Heap} {k : Nat} {C f : Addr} {m qual : Str} {st : Stmt} {fd : FuncData} {ps : List Str} {sp : SpD} (hm : Meth K C m f) (hb : Binds K fd ps []) (h : FnD P w K mg base k f fd ps sp) : HasM P w K mg base k C m ps sp := ⟨⟨f, fd, hm, hb, h⟩⟩
/-- a class of the module that is made by its __init__ -/
structure ClsOf (K : PySem.W.Frag) (mg : Str → Option Value) (x : Str) (C : Addr) (qual : Str) (st : Stmt) : Prop where
  cls : Cls K C
  mg_ : mg x = some (.ref C)
  ini : ∃ f fd, Fun K "__init__" qual st f fd ∧ Mk K C f
theorem clsOf_mk {x qual : Str} {K : PySem.W.Frag} {h : Heap} {mg : Str → Option Value} (X : K.In h) (G : h.Ns mainGlobals mg) {C : Addr} {st : Stmt} {f : Addr} {od an : Option Addr} {sl : Array (Option Value)} {oc kV dc pm cd ct : Value}
    (g : PySem.W.nsIn K mainGlobals x = some (some (.ref C))) (c1 : PySem.W.plainGet K C Str.empty = true) (c2 : PySem.W.hasDictIn K C = true) (c3 : PySem.W.plainOver K C = true) (c4 : PySem.W.findIn K (.ref C) "__setattr__" = some (some (.builtin "object.__setattr__")))
    (a : PySem.W.findIn K (.ref C) "__init__" = some (some (.ref f))) (l : K.lookup f = some ⟨oc, od, .func (PySem.W.fnOf "__init__" qual (defArgs st) (defBody st) (defScope st) .none kV dc pm an cd ct), sl⟩) (c : PySem.W.codeIn K cd qual = true) (k : PySem.W.keepIn K (.ref f) = true) (fn : PySem.W.isFn K (.ref f) = true)
    (mk : PySem.W.makesIn K C = true) (kp : PySem.W.keepIn K (.ref C) = true) : ClsOf K mg x C qual st :=
  ⟨⟨c1, c2, c3, c4⟩, PySem.W.mg_of X G g, f, _, fun_mk (st := st) l c k, ⟨mk, a, fn, kp⟩⟩
end PD
end

section
/-! PD29: dict displays. -/
namespace PD
open PySem PySem.Spec PyProof.Rows L2
/-- the pairs of a display -/
def tPairsD : List (TED × TED) → SD → HD → (List (Key × D) → HD → Prop) → Prop
  | [], _, S, Q => Q [] S
  | (tk, tv) :: r, σ, S, Q => tk σ S fun x S1 => tv σ S1 fun y S2 => match keyOf x with
    | some k => tPairsD r σ S2 fun ps S3 => Q ((k, y) :: ps) S3
    | none => False
def putAll (ps : List (Key × D)) (kds : List (D × D)) : List (D × D) := ps.foldl (fun acc kd => putD acc kd.1 kd.2) kds
/-- {k: v, ..}, frozen -/
def tDispV (trs : List (TED × TED)) : TED := fun σ S Q => tPairsD trs σ S fun ps S2 => ps.length ≤ 15 ∧ Q (.dic (putAll ps [])) S2
def rKV (ps : List (Key × D)) : List (D × D) := ps.map fun p => (kD p.1, p.2)
theorem pairs_up {K : PySem.W.Frag} {G : Addr → Prop} : ∀ (trs : List (TED × TED)) {σd : SD} {σ : L2.St} {S : HD} {H : Hp} {Qd : List (Key × D) → HD → Prop} {Q : List (V × V) → Hp → Prop}, RSl K G S H σd σ → RH K G S H → tPairsD trs σd S Qd →
    (∀ S' H' ps kvs, FL S H S' H' → RH K G S' H' → RDk K G S' H' (rKV ps) kvs → Qd ps S' → Q (kvs.map fun kv => (kV kv.1, kv.2)) H') → tPairs (trs.map fun t => (up K t.1, up K t.2)) σ H Q
  | [], _, _, S, H, _, _, _, rh, t, f => f S H [] [] (.refl _ _) rh .nil t
  | (tk, tv) :: r, σd, σ, S, H, _, _, rs, rh, t, f => ⟨G, σd, S, _, rs, rh, t, fun S1 x vx H1 f1 rh1 q1 t1 => ⟨G, σd, S1, _, rs.fl f1, rh1, t1, fun S2 y vy H2 f2 rh2 q2 t2 => by
      split at t2
      · rename_i k ek
        have := key_v ek q1
        subst this
        refine pairs_up r ((rs.fl f1).fl f2) rh2 t2 fun S3 H3 ps kvs f3 rh3 q3 t3 => ?_
        exact f S3 H3 ((k, y) :: ps) ((k, vy) :: kvs) (f1.trans (f2.trans f3)) rh3 (.cons (q2.fl f3) q3) t3
      · exact t2.elim⟩⟩
theorem putAll_rel {K : PySem.W.Frag} {G : Addr → Prop} {S : HD} {H : Hp} : ∀ (ps : List (Key × D)) {kvs : List (Key × V)} {acc : List (D × D)} {accv : List (Key × V)}, RDk K G S H (rKV ps) kvs → RDk K G S H acc accv → RDk K G S H (putAll ps acc) (mergeK accv kvs)
  | [], [], _, _, _, r => r
  | _ :: _, [], _, _, q, _ => by have := rdk_len q; simp [rKV] at this
  | [], _ :: _, _, _, q, _ => by have := rdk_len q; simp [rKV] at this
  | (k, d) :: ps, (k', v) :: kvs, acc, accv, q, r => by
    have q' : RDk K G S H ((kD k, d) :: rKV ps) ((k', v) :: kvs) := q
    generalize hk : kD k = kd at q'
    cases q' with
    | cons h q2 =>
      have e : k = k' := by
        have := congrArg keyOf hk
        rw [keyOf_kD, keyOf_kD] at this
        exact Option.some.inj this
      subst e
      exact putAll_rel (kvs := kvs) ps q2 (rdk_put k h r)
abbrev DPs (X : Cx) (pos : Pos) (keys : List (Option Expr)) (values : List Expr) (trs : List (TED × TED)) : Prop := PPs X pos keys values (trs.map fun t => (up X.K t.1, up X.K t.2))
section
variable {X : Cx} {pos : Pos} {keys : List (Option Expr)} {values : List Expr} {trs : List (TED × TED)} {k v : Expr} {tk tv : TED}
theorem dps_nil : DPs X pos [] [] [] := pps_nil
theorem dps_cons (hk : DE X k tk) (hv : DE X v tv) (hr : DPs X pos keys values trs) : DPs X pos (some k :: keys) (v :: values) ((tk, tv) :: trs) := pps_cons hk hv hr
theorem de_disp (h : DPs X pos keys values trs) (hall : keys.all (·.isSome) = true := by rfl) (hl : keys.length = values.length := by rfl) (h0 : keys ≠ [] := by simp) (h15 : keys.length ≤ 15 := by decide) : DE X (.Dict keys values pos) (tDispV trs) :=
  (pe_disp h hall hl h0 h15).imp fun σ H Q ⟨G, σd, S, Qd, rs, rh, t, p⟩ => fun q hq => by
    refine pairs_up trs (G := Res G q) (rs.mv (res_in hq)) (rh.res hq _) t fun S' H' ps kvs f' rh' q' ⟨hl15, t'⟩ => ?_
    have fr := RH.resFree (rh.res hq (.dK []))
    have pk := (f'.kp q _ upd_same fr.1 fr.2).2.2
    have hlen : kvs.length = ps.length := by
      have := rdk_len q'
      unfold rKV at this
      rw [List.length_map] at this
      exact this.symm
    refine ⟨pk, kvs, rfl, by omega, ?_⟩
    have f2 : FL S H S' (upd H' q (.dK (mergeK [] kvs))) := (((Grow.upd hq).fl (S := S)).trans f').updp hq
    have fr2 := RH.resFree rh'
    have rr := putAll_rel ps q' (.nil (K := X.K) (G := Res G q) (S := S') (H := H'))
    refine p S' _ _ _ f2 (rh'.resW _).resOut (.dic ⟨⟨fr2.1, fr2.2, fun g => ?_⟩, .inl upd_same⟩ ((rr.mv res_mv).mv res_out)) t'
    obtain ⟨⟨o, e⟩, _⟩ := rh.rs q g
    rw [hq] at e; cases e
end
end PD
end

section
local macro_rules | `(tactic| walk_at "rdx") => `(tactic| simp only [PD.pad, PD.gt_z, PD.gt_s, PD.st_z, PD.st_s, PD.sNextD, PD.sSeqD, PD.sBreakD, PD.sContD, PD.sDropD, PD.sRetD, PD.sRetND, PD.sIfD, PD.sNeverD, PD.sAsgD, PD.sPar2, PD.sPar3, PD.gNameD, PD.gNilD, PD.gConsD, PD.gTupD, PD.gSubD, PD.tNilD, PD.tConsD, PD.tTupD, PD.tLstV, PD.tLstR, PD.tBin, PD.tTst, PD.tAndD, PD.tOrD, PD.tNotD, PD.tIfD, PD.tAndV, PD.tOrV, PD.tNotV, PD.tUnD, PD.rNeg, PD.tCallD, PD.tSlot, PD.tCD, PD.tChainD, PD.rIsN, PD.rNotN, PD.isN, PD.rIsiD, PD.isiB, PD.Ty.name, PD.rCmpI, PD.fLt, PD.fLe, PD.fGt, PD.fGe, PD.rAddD, PD.rSubD, PD.rFdivD, PD.rModD, PD.rPowD, PD.rMulD, PD.rAddR, PD.rMulR, PD.asSeq, PD.asLst, PD.rLenD, PD.rTupleD, PD.rListV, PD.rListR, PD.rIntD, PD.rBoolD, PD.rAbsD, PD.rIxD, PD.oNone, PD.oSome, PD.tSlD, PD.rSlD, PD.tRevTD, PD.rEqD, PD.rNeD, PD.nrm, PD.iSeqD, PD.iRng1D, PD.iRng2D, PD.sForD, PD.tLcV, PD.tLcR, PD.tYesD, PD.wipeD, PD.tMethL, PD.rAppD, PD.isRefL, PD.tDicV, PD.rSetD, PD.rReprD, reduceIte, true_and, and_true, Bool.not_true, Bool.not_false, Bool.false_eq_true, List.length_cons, List.length_nil, List.set_cons_zero, List.set_cons_succ, PD.HD.set_same, PD.HD.tick_hp, PD.HD.tick_c, PD.HD.tick_dk, PD.HD.set_c, PD.HD.set_dk])
/-! PD30: the other kind of draw (5501, 2147483179, 29, 2147483423). -/
namespace PD
open PySem PySem.Spec PyProof.Rows
def rdDraw2 : TSD :=
  sSeqD (sAsgD (tBin rAddD (tBin rIxD (tSlot 0) (tCD (.int 1))) (tCD (.int 1))) (gSubD (tSlot 0) (tCD (.int 1))))
  (sSeqD (sAsgD (tTupD (tConsD (tCD (.int 0)) (tConsD (tUnD rNeg (tCD (.int 1))) (tNilD)))) (gTupD 2 (gConsD (gNameD 2) (gConsD (gNameD 3) (gNilD)))))
  (sSeqD (sIfD (tTst (tBin (rCmpI fGt) (tCallD rLenD (tConsD (tBin rIxD (tSlot 0) (tCD (.int 0))) (tNilD))) (tCD (.int 0)))) (sSeqD (sAsgD (tBin rModD (tCallD rIntD (tConsD (tBin rIxD (tSlot 0) (tCD (.int 1))) (tNilD))) (tCallD rLenD (tConsD (tBin rIxD (tSlot 0) (tCD (.int 0))) (tNilD)))) (gNameD 3))
  (sAsgD (tBin rIxD (tBin rIxD (tSlot 0) (tCD (.int 0))) (tSlot 3)) (gNameD 2))) (sNextD))
  (sSeqD (sIfD (tTst (tBin (rCmpI fGe) (tSlot 2) (tBin rPowD (tCD (.int 10)) (tCD (.int 18))))) (sSeqD (sAsgD (tBin rFdivD (tCallD rIntD (tConsD (tSlot 2) (tNilD))) (tSlot 1)) (gSubD (tBin rIxD (tSlot 0) (tCD (.int 0))) (tSlot 3)))
  (sRetD (tBin rModD (tCallD rIntD (tConsD (tSlot 2) (tNilD))) (tSlot 1)))) (sNextD))
  (sSeqD (sAsgD (tBin rAddD (tBin rAddD (tBin rModD (tCallD rIntD (tConsD (tSlot 2) (tNilD))) (tCD (.int 2147483179))) (tBin rMulD (tCD (.int 5501)) (tBin rIxD (tSlot 0) (tCD (.int 1))))) (tCD (.int 29))) (gNameD 4))
  (sRetD (tBin rModD (tCallD rIntD (tConsD (tBin rModD (tCallD rIntD (tConsD (tBin rPowD (tSlot 4) (tCD (.int 5))) (tNilD))) (tCD (.int 2147483423))) (tNilD))) (tSlot 1)))))))
/-- behind the choice of the cell -/
def rdTail2 : TSD :=
  (sSeqD (sIfD (tTst (tBin (rCmpI fGe) (tSlot 2) (tBin rPowD (tCD (.int 10)) (tCD (.int 18))))) (sSeqD (sAsgD (tBin rFdivD (tCallD rIntD (tConsD (tSlot 2) (tNilD))) (tSlot 1)) (gSubD (tBin rIxD (tSlot 0) (tCD (.int 0))) (tSlot 3)))
  (sRetD (tBin rModD (tCallD rIntD (tConsD (tSlot 2) (tNilD))) (tSlot 1)))) (sNextD))
  (sSeqD (sAsgD (tBin rAddD (tBin rAddD (tBin rModD (tCallD rIntD (tConsD (tSlot 2) (tNilD))) (tCD (.int 2147483179))) (tBin rMulD (tCD (.int 5501)) (tBin rIxD (tSlot 0) (tCD (.int 1))))) (tCD (.int 29))) (gNameD 4))
  (sRetD (tBin rModD (tCallD rIntD (tConsD (tBin rModD (tCallD rIntD (tConsD (tBin rPowD (tSlot 4) (tCD (.int 5))) (tNilD))) (tCD (.int 2147483423))) (tNilD))) (tSlot 1)))))
theorem tail2_ok {S : HD} {a b : Addr} {cells : List Int} {k : Nat} {m c at_ : Int} (hab : a ≠ b) (hk : k < 1000000000000) (hl : cells.length ≤ 63) (h0 : ∀ z ∈ cells, 0 ≤ z) (h1 : 1 ≤ m) (h2 : m ≤ 500000000) (hc0 : 0 ≤ c)
    (ha : S.hp a = some (.lst [.ref b, .int ((k + 1 : Nat) : Int)])) (hb : S.hp b = some (.lst (cells.map D.int))) (hat : c = 0 ∨ (0 ≤ at_ ∧ at_ < cells.length)) {bk ct nx : SD → HD → Prop} :
    rdTail2 { nx := nx, rt := drawn a b k m, bk := bk, ct := ct } [some (.ref a), some (.int m), some (.int c), some (.int at_), none] S := by
  unfold rdTail2
  have hba : b ≠ a := fun e => hab e.symm
  walk_at "rdx"
  refine ⟨⟨by decide, by decide, by decide⟩, ?_⟩
  by_cases hc : (10 : Int) ^ (18 : Int).toNat ≤ c
  · have hc' : (1000000000000000000 : Int) ≤ c := hc
    rcases hat with e | ⟨h3, h4⟩
    · omega
    have hix : L2.ixN cells.length at_ = some at_.toNat := by unfold L2.ixN; rw [if_pos h3, if_pos h4]
    simp only [hc, decide_true, if_true]
    refine ⟨⟨by omega, by omega⟩, ?_⟩
    simp only [ha, hb, atI20, List.length_map, hix]
    refine ⟨by omega, c % m, cells.set at_.toNat (c / m), rfl, Int.emod_nonneg _ (by omega), Int.emod_lt_of_pos _ (by omega), ?_, ?_, ?_, ?_⟩
    · rw [HD.set_ne hab]; exact ha
    · rw [HD.set_same, List.map_set]
    · rw [List.length_set]; exact hl
    · intro z hz
      rcases List.mem_or_eq_of_mem_set hz with h | h
      · exact h0 z h
      · subst h; exact Int.ediv_nonneg (by omega) (by omega)
  · simp only [hc, decide_false, Bool.false_eq_true, if_false]
    simp only [ha, atI21]
    have e1 := Int.emod_nonneg c (b := 2147483179) (by decide)
    have e2 := Int.emod_lt_of_pos c (b := 2147483179) (by decide)
    refine ⟨by decide, ?_, ?_⟩
    · left
      decide
    refine ⟨⟨by decide, by decide, ?_⟩, by decide, by omega, _, cells, rfl, Int.emod_nonneg _ (by omega), Int.emod_lt_of_pos _ (by omega), ha, hb, hl, h0⟩
    omega
theorem draw2Ok : DrawOk rdDraw2 5 := by
  intro S a b cells k m hab hk hl h0 h1 h2
  have hba : b ≠ a := fun e => hab e.symm
  have ha : (openD S a b cells k).hp a = some (.lst [.ref b, .int (k : Int)]) := if_pos rfl
  have hb : (openD S a b cells k).hp b = some (.lst (cells.map D.int)) := (if_neg hba).trans (if_pos rfl)
  show rdDraw2 { nx := fun _ _ => False, rt := drawn a b k m } (pad 5 [.ref a, .int m]) (openD S a b cells k)
  generalize openD S a b cells k = S0 at ha hb
  unfold rdDraw2
  rw [show (sSeqD (sIfD (tTst (tBin (rCmpI fGe) (tSlot 2) (tBin rPowD (tCD (.int 10)) (tCD (.int 18))))) _ _) _) = rdTail2 from rfl]
  generalize hT : rdTail2 = T
  walk_at "rdx"
  simp only [ha, atI21]
  walk_at "rdx"
  simp only [ha, ixN21]
  walk_at "rdx"
  have ha' : (S0.set a (.lst [.ref b, .int ((k : Int) + 1)])).hp a = some (.lst [.ref b, .int ((k + 1 : Nat) : Int)]) := HD.set_same
  have hb' : (S0.set a (.lst [.ref b, .int ((k : Int) + 1)])).hp b = some (.lst (cells.map D.int)) := (HD.set_ne hba).trans hb
  generalize (S0.set a (.lst [.ref b, .int ((k : Int) + 1)])) = S1 at ha' hb'
  refine ⟨by decide, ?_⟩
  simp only [atI20, ha', hb', List.length_map]
  cases cells with
  | nil =>
    simp only [List.length_nil, Int.natCast_zero, Int.lt_irrefl, decide_false, Bool.false_eq_true, if_false]
    subst hT
    exact tail2_ok hab hk hl h0 h1 h2 (Int.le_refl 0) ha' hb' (.inl rfl)
  | cons z0 zs =>
    have hpos : (0 : Int) < (((z0 :: zs).length : Nat) : Int) := by simp only [List.length_cons]; omega
    simp only [hpos, decide_true, if_true, atI21, true_and]
    walk_at "rdx"
    generalize hr : ((k : Int) + 1) % ((zs.length + 1 : Nat) : Int) = r
    have e1 : 0 ≤ r := by rw [← hr]; exact Int.emod_nonneg _ (by omega)
    have e2 : r < (((z0 :: zs).length : Nat) : Int) := by rw [← hr, List.length_cons]; exact Int.emod_lt_of_pos _ (by omega)
    obtain ⟨z, hz, hm⟩ := atI_nat (xs := z0 :: zs) e1 e2
    have hz' : L2.atI ((z0 :: zs).map D.int) r = some (.int z) := by
      unfold L2.atI at hz ⊢
      rw [List.length_map]
      cases q : L2.ixN (z0 :: zs).length r with
      | none => rw [q] at hz; cases hz
      | some j =>
        rw [q] at hz
        show ((z0 :: zs).map D.int)[j]? = _
        rw [List.getElem?_map]
        rw [show (z0 :: zs)[j]? = some z from hz]
        rfl
    rw [hz']
    subst hT
    exact tail2_ok hab hk hl h0 h1 h2 (h0 z hm) ha' hb' (.inr ⟨e1, e2⟩)
end PD
end

section
/-! PD31: dicts whose keys are tuples of any depth: in, [], []=, get, setdefault, len, displays. -/
namespace PD
open PySem PySem.Spec PyProof.Rows L2
/-- a key that is a tuple -/
def keyT : D → Option NestedKey
  | .tup xs => (nksOf xs).map .tup
  | _ => none
theorem keyT_nk {d : D} {k : NestedKey} (h : keyT d = some k) : nkOf d = some k := by
  cases d <;> first | cases h | skip
  exact h
theorem keyT_ref {K : PySem.W.Frag} {G : Addr → Prop} {S : HD} {H : Hp} {d : D} {v : V} {k : NestedKey} (h : keyT d = some k) (q : RD K G S H d v) : ∃ b, v = .ref b := by
  cases q <;> first | cases h | skip
  exact ⟨_, rfl⟩
def getT : List (D × D) → NestedKey → Option D
  | [], _ => none
  | (d, v) :: r, k => if nkOf d = some k then some v else getT r k
def hasT (kds : List (D × D)) (k : NestedKey) : Bool := (getT kds k).isSome
def putT (kds : List (D × D)) (kd : D) (k : NestedKey) (v : D) : List (D × D) :=
  if hasT kds k = true then kds.map (fun kv => if nkOf kv.1 = some k then (kv.1, v) else kv) else kds ++ [(kd, v)]
def tdOf (S : HD) : D → Option (World × List (D × D))
  | .ref a => (match S.hp a with
    | some (.dct w kds) => some (w, kds)
    | _ => none)
  | _ => none
section
variable {P : Program} {w : World} {K : PySem.W.Frag} {G : Addr → Prop} {S : HD} {H : Hp} {h : Heap}
mutual
theorem nested_of (ok : HOk P w H h) (hK : K.In h) : ∀ {d : D} {v : V} {u : Value} {nk : NestedKey}, RD K G S H d v → RelV v u → nkOf d = some nk → NestedIs h nk u
  | _, _, _, _, .non, r, e => by cases e; obtain rfl : _ = Value.none := r; exact .none
  | _, _, _, _, .bl b, r, e => by cases e; obtain rfl : _ = Value.bool b := r; exact .bool rfl
  | _, _, _, _, .int i, r, e => by cases e; obtain ⟨t, rfl⟩ := (show ∃ t, _ = Value.int i t from r); exact .int _ _
  | _, _, _, _, .str x, r, e => by cases e; obtain ⟨t, rfl⟩ := (show ∃ t, _ = Value.str x t from r); exact .text _ _
  | _, _, _, _, .ty n, r, e => by cases e
  | _, _, _, _, .ref a, r, e => by cases e
  | _, _, _, _, .lst _ _, r, e => by cases e
  | _, _, _, _, .dic _ _, r, e => by cases e
  | _, _, _, _, .deck _, r, e => by cases e
  | _, _, u, nk, @RD.tup _ _ _ _ a vs ds hf q, r, e => by
    have e' : (nksOf ds).map NestedKey.tup = some nk := e
    obtain ⟨ks, hks, rfl⟩ := Option.map_eq_some_iff.mp e'
    obtain rfl : u = Value.ref a := r
    rcases hf with ⟨_, rd⟩ | ⟨o, its, n, lk, hc, hd, _, vr⟩
    · obtain ⟨_, its, r', o, h1, h2, n, h3⟩ := (show ObjOk P w H h a (.tup vs) from rd.ok ok)
      exact .tup h1 h2 h3 (by simpa using nestedAll_of ok hK q r' hks)
    · exact .tup (hK _ _ lk) hc hd (nestedAll_of ok hK q vr hks)
theorem nestedAll_of (ok : HOk P w H h) (hK : K.In h) : ∀ {ds : List D} {vs : List V} {us : List Value} {ks : List NestedKey}, RDs K G S H ds vs → Vals vs us → nksOf ds = some ks → NestedAll h ks us
  | _, _, _, _, .nil, r, e => by cases e; cases r; exact .nil
  | _, _, _, ks, @RDs.cons _ _ _ _ d v ds vs q qs, r, e => by
    have e' : ((nkOf d).bind fun k => (nksOf ds).map (k :: ·)) = some ks := e
    obtain ⟨k, hk, e2⟩ := Option.bind_eq_some_iff.mp e'
    obtain ⟨ks', hks, rfl⟩ := Option.map_eq_some_iff.mp e2
    cases r with
    | cons r rs => exact .cons (nested_of ok hK q r hk) (nestedAll_of ok hK qs rs hks)
end
end
def KeyOk (K : PySem.W.Frag) (H : Hp) (nk : NestedKey) (b : Addr) : Prop := nk.depth ≤ 8 ∧ ∀ (P : Program) (w : World) (h : Heap), HOk P w H h → K.In h → NestedIs h nk (.ref b)
def KeysOk (K : PySem.W.Frag) (H : Hp) (xs : List (NestedKey × Addr × Value)) : Prop := ∀ x ∈ xs, KeyOk K H x.1 x.2.1
section
variable {K : PySem.W.Frag} {G : Addr → Prop} {S : HD} {H : Hp}
theorem keyOk_of {d : D} {b : Addr} {nk : NestedKey} (q : RD K G S H d (.ref b)) (e : nkOf d = some nk) (hd : nk.depth ≤ 8) : KeyOk K H nk b :=
  ⟨hd, fun P w h ok hK => nested_of ok hK q rfl e⟩
theorem keysOk_of : ∀ {kds : List (D × D)} {xs : List (NestedKey × Addr × Value)}, RDt K G S H kds xs → KeysOk K H xs
  | _, _, .nil => fun _ hx => nomatch hx
  | _, _, .cons hk hn hd _ _ r => fun x hx => by
    rcases List.mem_cons.mp hx with e | hx
    · subst e; exact keyOk_of hk hn hd
    · exact keysOk_of r x hx
theorem rdt_get : ∀ {kds : List (D × D)} {xs : List (NestedKey × Addr × Value)} (k : NestedKey), RDt K G S H kds xs → (getT kds k = none ∧ atKey xs k = none) ∨ ∃ d b v u, getT kds k = some d ∧ atKey xs k = some (b, u) ∧ RelV v u ∧ RD K G S H d v
  | _, _, k, .nil => .inl ⟨rfl, rfl⟩
  | _, _, k, @RDt.cons _ _ _ _ kd d nk b v u kds xs hk hn hd hv h r => by
    by_cases e : nk = k
    · subst e
      exact .inr ⟨d, b, v, u, by simp [getT, hn], by simp [atKey], hv, h⟩
    · have e1 : getT ((kd, d) :: kds) k = getT kds k := by
        simp only [getT, hn]
        exact if_neg fun q => e (Option.some.inj q)
      have e2 : atKey ((nk, b, u) :: xs) k = atKey xs k := by simp [atKey, List.find?_cons, e]
      rw [e1, e2]
      exact rdt_get k r
theorem RDt.append : ∀ {a b : List (D × D)} {c d : List (NestedKey × Addr × Value)}, RDt K G S H a c → RDt K G S H b d → RDt K G S H (a ++ b) (c ++ d)
  | _, _, _, _, .nil, s => s
  | _, _, _, _, .cons hk hn hd hv h r, s => .cons hk hn hd hv h (r.append s)
theorem rdt_len : ∀ {kds : List (D × D)} {xs : List (NestedKey × Addr × Value)}, RDt K G S H kds xs → kds.length = xs.length
  | _, _, .nil => rfl
  | _, _, .cons _ _ _ _ _ r => by simp [rdt_len r]
theorem rdt_map {k : NestedKey} {x : D} {y : V} {z : Value} (q : RD K G S H x y) (rz : RelV y z) : ∀ {kds : List (D × D)} {xs : List (NestedKey × Addr × Value)}, RDt K G S H kds xs →
    RDt K G S H (kds.map fun kv => if nkOf kv.1 = some k then (kv.1, x) else kv) (xs.map (putAt k z))
  | _, _, .nil => .nil
  | _, _, @RDt.cons _ _ _ _ kd d nk b v u kds xs hk hn hd hv h r => by
    simp only [List.map_cons, hn]
    by_cases e : nk = k
    · subst e
      simp only [if_true, putAt]
      exact .cons hk hn hd rz q (rdt_map q rz r)
    · rw [if_neg fun z => e (Option.some.inj z)]
      have e2 : putAt k z (nk, b, u) = (nk, b, u) := by simp [putAt, e]
      rw [e2]
      exact .cons hk hn hd hv h (rdt_map q rz r)
theorem rdt_put {kds : List (D × D)} {xs : List (NestedKey × Addr × Value)} {kd : D} {b : Addr} {k : NestedKey} {x : D} {y : V} {z : Value} (hk : RD K G S H kd (.ref b)) (hn : nkOf kd = some k) (hd : k.depth ≤ 8) (q : RD K G S H x y) (rz : RelV y z) (r : RDt K G S H kds xs) :
    RDt K G S H (putT kds kd k x) (storedH xs k b z) := by
  unfold putT storedH hasT
  rcases rdt_get k r with ⟨e1, e2⟩ | ⟨d, b', v, u, e1, e2, _⟩
  · rw [e1, e2]
    exact r.append (.cons hk hn hd rz q .nil)
  · rw [e1, e2]
    exact rdt_map q rz r
theorem putT_len (kds : List (D × D)) (kd : D) (k : NestedKey) (z : D) : (putT kds kd k z).length ≤ kds.length + 1 := by
  unfold putT
  split <;> simp
theorem tdOf_eq {d : D} {w : World} {kds : List (D × D)} (h : tdOf S d = some (w, kds)) : ∃ a, d = .ref a ∧ S.hp a = some (.dct w kds) := by
  cases d with
  | ref a =>
    simp only [tdOf] at h
    split at h
    · rename_i w' ys e
      cases h
      exact ⟨a, rfl, e⟩
    · cases h
  | _ => cases h
theorem tdOf_ok (rh : RH K G S H) {d : D} {v : V} {w : World} {kds : List (D × D)} (h : tdOf S d = some (w, kds)) (q : RD K G S H d v) : ∃ a xs, d = .ref a ∧ S.hp a = some (.dct w kds) ∧ v = .ref a ∧ H a = some (.ext (RawT w a xs)) ∧ RDt K G S H kds xs := by
  obtain ⟨a, rfl, e⟩ := tdOf_eq h
  cases q
  obtain ⟨_, _, xs, e1, r⟩ := rh.hp a _ e
  exact ⟨a, xs, rfl, e, rfl, e1, r⟩
end
section
variable {X : Cx} {pins : List (Addr × Obj)} {σ : L2.St} {H : Hp} {s : Shared} {a : Addr} {xs : List (NestedKey × Addr × Value)}
theorem keyAt_is (I : Inv X pins σ H s) {nk : NestedKey} {b : Addr} (k : KeyOk X.K H nk b) : (nestedKind X.prog X.w).is s.heap nk b := ⟨k.2 _ _ _ I.hok I.kIn, k.1⟩
theorem td_dict (I : Inv X pins σ H s) (e : H a = some (.ext (RawT X.w a xs))) (r : KeysOk X.K H xs) : (a == sysModules) = false ∧ xs.length ≤ sizeLine ∧ s.heap.DictOfH (nestedKind X.prog X.w) a xs := by
  obtain ⟨⟨o, es, ep, h1, h2, h3, h4, h5, h6, h7⟩, _, _⟩ := (show ObjOk X.prog X.w H s.heap a (.ext (RawT X.w a xs)) from I.hok a _ e)
  exact ⟨h6, h7, o, es, ep, h1, h2, h3, h4, fun x hx => keyAt_is I (r x hx), h5⟩
theorem raw_mono (w : World) (a : Addr) (xs : List (NestedKey × Addr × Value)) : ∀ h1 h2 : Heap, RawT w a xs h1 → (∀ o, h1.get? a = some o → h2.get? a = some o) → RawT w a xs h2 := fun _ _ ⟨o, es, ep, e, r⟩ k => ⟨o, es, ep, k o e, r⟩
theorem raw_ok {P : Program} {w : World} {H' : Hp} {h' : Heap} (hd : (a == sysModules) = false) (hz : xs.length ≤ sizeLine) (dd : h'.DictOfH (nestedKind P w) a xs) : ObjOk P w H' h' a (.ext (RawT w a xs)) := by
  obtain ⟨o, es, ep, h1, h2, h3, h4, _, h5⟩ := dd
  exact ⟨⟨o, es, ep, h1, h2, h3, h4, h5, hd, hz⟩, ⟨o, h1⟩, raw_mono w a xs⟩
theorem room_nest {k : Nat} {A : Around} {P : Program} {w : World} (hr : RoomG k A) : (nestedKind P w).room A.in1 := by
  have := hr.un64
  show A.in1.units + 8 < cLine
  rw [Around.in1_units]
  omega
theorem room_nest0 {k : Nat} {A : Around} {P : Program} {w : World} (hr : RoomG k A) : (nestedKind P w).room A := by
  have := hr.un64
  show A.units + 8 < cLine
  omega
end
/-! ### in -/
def rTIn (K : PySem.W.Frag) (w : World) (neg : Bool) : R2 := fun x y H Q => ∃ a b xs nk, y = .ref a ∧ x = .ref b ∧ H a = some (.ext (RawT w a xs)) ∧ KeysOk K H xs ∧ KeyOk K H nk b ∧ Q (.bl (if neg then !(atKey xs nk).isSome else (atKey xs nk).isSome)) H
def rInW (w : World) (neg : Bool) : R2D := fun x y S Q => match tdOf S y with
  | some (w', kds) => (match keyT x with
    | some nk => w' = w ∧ nk.depth ≤ 8 ∧ Q (.bl (if neg then !hasT kds nk else hasT kds nk)) S
    | none => False)
  | none => rInY neg x y S Q
section
variable {X : Cx} {o i e a b : Expr} {to ti te ta tb : TED} {pos pos' : Pos} {k : Nat}
theorem op_tIn (hr : RoomG k X.A) : OpR X (compareOp .In) (rTIn X.K X.w false) := by
  intro pins s σ H x y v u Q I rx ry ⟨a, b, xs, nk, e1, e2, h, ks, ki, q⟩
  subst e1 e2
  obtain rfl : v = Value.ref b := rx
  obtain rfl : u = Value.ref a := ry
  obtain ⟨hd, hz, dd⟩ := td_dict I h ks
  exact wpAny_in_heap (knd := nestedKind X.prog X.w) (room_nest hr) (keyAt_is I ki) hd dd ⟨.bl (atKey xs nk).isSome, H, I.tok _, rfl, q⟩
theorem op_tNotIn (hr : RoomG k X.A) : OpR X (compareOp .NotIn) (rTIn X.K X.w true) := by
  intro pins s σ H x y v u Q I rx ry ⟨a, b, xs, nk, e1, e2, h, ks, ki, q⟩
  subst e1 e2
  obtain rfl : v = Value.ref b := rx
  obtain rfl : u = Value.ref a := ry
  obtain ⟨hd, hz, dd⟩ := td_dict I h ks
  refine notIn_keyed (knd := nestedKind X.prog X.w) (room_nest hr) (keyAt_is I ki) hd ⟨xs, dd, rfl⟩ ⟨.bl (!(atKey xs nk).isSome), H, I.tok _, ?_, q⟩
  rw [valueAt_pairsH, Option.isSome_map]
  rfl
theorem inW2 {K : PySem.W.Frag} (w : World) (neg : Bool) : Op2 K (fun x y H Q => ((rIn K neg x y H Q ∨ rDIn neg x y H Q) ∨ rNoneIn neg x y H Q) ∨ rTIn K w neg x y H Q) (rInW w neg) := fun G S H d1 d2 v1 v2 Qd Q rh q1 q2 t p => by
  unfold rInW at t
  split at t
  · rename_i w' kds e
    split at t
    · rename_i nk ek
      obtain ⟨rfl, hd, t⟩ := t
      obtain ⟨a, xs, rfl, _, rfl, e1, r⟩ := tdOf_ok rh e q2
      obtain ⟨b, rfl⟩ := keyT_ref ek q1
      refine .inr ⟨a, b, xs, nk, rfl, rfl, e1, keysOk_of r, keyOk_of q1 (keyT_nk ek) hd, p.here rh ?_ t⟩
      have e3 : (atKey xs nk).isSome = hasT kds nk := by
        unfold hasT
        rcases rdt_get nk r with ⟨z1, z2⟩ | ⟨d, b', v, u, z1, z2, _⟩ <;> rw [z1, z2] <;> rfl
      rw [e3]
      exact .bl _
    · exact t.elim
  · exact .inl (inY2 neg G S H _ _ v1 v2 Qd Q rh q1 q2 t p)
theorem de_inW (hr : RoomG k X.A) (ha : DE X a ta) (hb : DE X b tb) (hm : behindInMarks .In b = false := by rfl) : DE X (.Compare a [.In] [b] pos) (tBin (rInW X.w false) ta tb) := de_cmp (((op_in_seq.or (op_inD hr.un1)).or op_noneIn).or (op_tIn hr)) (inW2 X.w false) ha hb hm
theorem de_notInW (hr : RoomG k X.A) (ha : DE X a ta) (hb : DE X b tb) (hm : behindInMarks .NotIn b = false := by rfl) : DE X (.Compare a [.NotIn] [b] pos) (tBin (rInW X.w true) ta tb) := de_cmp (((op_notIn_seq.or (op_notInD hr.un1)).or op_noneNotIn).or (op_tNotIn hr)) (inW2 X.w true) ha hb hm
theorem dt_inW (hr : RoomG k X.A) (ha : DE X a ta) (hb : DE X b tb) (hm : behindInMarks .In b = false := by rfl) : DT X (.Compare a [.In] [b] pos) (tTst (tBin (rInW X.w false) ta tb)) := dt_cmp (((op_in_seq.or (op_inD hr.un1)).or op_noneIn).or (op_tIn hr)) (inW2 X.w false) ha hb hm
theorem dt_notInW (hr : RoomG k X.A) (ha : DE X a ta) (hb : DE X b tb) (hm : behindInMarks .NotIn b = false := by rfl) : DT X (.Compare a [.NotIn] [b] pos) (tTst (tBin (rInW X.w true) ta tb)) := dt_cmp (((op_notIn_seq.or (op_notInD hr.un1)).or op_noneNotIn).or (op_tNotIn hr)) (inW2 X.w true) ha hb hm
/-! ### [] -/
def rTIx (K : PySem.W.Frag) (w : World) : R2 := fun x y H Q => ∃ a b xs nk c u v, x = .ref a ∧ y = .ref b ∧ H a = some (.ext (RawT w a xs)) ∧ KeysOk K H xs ∧ KeyOk K H nk b ∧ atKey xs nk = some (c, u) ∧ RelV v u ∧ Q v H
theorem ix_tdict (hr : RoomG k X.A) : IxR X (rTIx X.K X.w) := by
  intro value slice pins s σ H x y v u Q I rx ry ⟨a, b, xs, nk, c, u', v', e1, e2, h, ks, ki, l, rv, q⟩ hs
  subst e1 e2
  obtain rfl : v = Value.ref a := rx
  obtain rfl : u = Value.ref b := ry
  obtain ⟨hd, hz, dd⟩ := td_dict I h ks
  exact tail_any (ops := [.ref a, .ref b]) dd.typeIs PySem.F.slot_dict_getitem.lookup (wpAny_getItem_heap (knd := nestedKind X.prog X.w) (room_nest hr) (keyAt_is I ki) dd l ⟨v', H, I.tok _, rv, q⟩) hs
def rIxW (w : World) : R2D := fun x y S Q => match tdOf S x with
  | some (w', kds) => (match keyT y with
    | some nk => w' = w ∧ nk.depth ≤ 8 ∧ (match getT kds nk with
      | some v => Q v S
      | none => False)
    | none => False)
  | none => rIxX x y S Q
theorem ixW2 {K : PySem.W.Frag} (w : World) : Op2 K (fun x y H Q => (rIx K x y H Q ∨ rDIx x y H Q) ∨ rTIx K w x y H Q) (rIxW w) := fun G S H d1 d2 v1 v2 Qd Q rh q1 q2 t p => by
  unfold rIxW at t
  split at t
  · rename_i w' kds e
    split at t
    · rename_i nk ek
      obtain ⟨rfl, hd, t⟩ := t
      obtain ⟨a, xs, rfl, _, rfl, e1, r⟩ := tdOf_ok rh e q1
      obtain ⟨b, rfl⟩ := keyT_ref ek q2
      rcases rdt_get nk r with ⟨z1, z2⟩ | ⟨d, b', v, u, z1, z2, z3, z4⟩
      · rw [z1] at t; exact t.elim
      · rw [z1] at t
        exact .inr ⟨a, b, xs, nk, b', u, v, rfl, rfl, e1, keysOk_of r, keyOk_of q2 (keyT_nk ek) hd, z2, z3, p.here rh z4 t⟩
    · exact t.elim
  · exact .inl (ixX2 G S H d1 d2 v1 v2 Qd Q rh q1 q2 t p)
theorem de_ixW (hr : RoomG k X.A) (ha : DE X a ta) (hb : DE X b tb) (hs : PlainIx b := by exact fun _ _ => rfl) : DE X (.Subscript a b pos) (tBin (rIxW X.w) ta tb) := (pe_ix ((ix_seq.or (ix_dic hr.un1)).or (ix_tdict hr)) ha hb hs).imp (up_bin (ixW2 X.w))
/-! ### []= -/
def rTSet (K : PySem.W.Frag) (w : World) : TSet := fun o i v H Q => ∃ a b xs nk, o = .ref a ∧ i = .ref b ∧ H a = some (.ext (RawT w a xs)) ∧ KeysOk K H xs ∧ KeyOk K H nk b ∧ xs.length < sizeLine ∧ ∀ u, RelV v u → Q (upd H a (.ext (RawT w a (storedH xs nk b u))))
theorem set_tdict (hr : RoomG k X.A) : PSet X (rTSet X.K X.w) := by
  intro pins s σ H o i v ov iv u Q I ro ri rv ⟨a, b, xs, nk, e1, e2, h, ks, ki, hl, q⟩
  subst e1 e2
  obtain rfl : ov = Value.ref a := ro
  obtain rfl : iv = Value.ref b := ri
  obtain ⟨hd, hz, dd⟩ := td_dict I h ks
  refine wpAny_setItem_heap (knd := nestedKind X.prog X.w) (room_nest hr) (keyAt_is I ki) dd (fun h' dd' hs => ?_) (hsz := hz)
  have he : ∃ q, h'.get? a = some q := let ⟨q, _, _, hq, _⟩ := dd'; ⟨q, hq⟩
  have hz' : (storedH xs nk b u).length ≤ sizeLine := by have := storedH_length xs nk b u; omega
  exact ⟨_, d_write I (by rw [h]; exact True.intro) hs he (raw_ok hd hz' dd'), q u rv⟩
def rSetW (w : World) (o i v : D) (S : HD) (Q : HD → Prop) : Prop := match tdOf S o with
  | some (w', kds) => (match keyT i with
    | some nk => w' = w ∧ nk.depth ≤ 8 ∧ kds.length < 16000000 ∧ (match o with
      | .ref a => Q (S.set a (.dct w (putT kds i nk v)))
      | _ => False)
    | none => False)
  | none => rSetX o i v S Q
def gSubW (w : World) (to ti : TED) : TGD := fun v σ S Q => to σ S fun o S1 => ti σ S1 fun i S2 => rSetW w o i v S2 fun S3 => Q σ S3
theorem RH.writeT {K : PySem.W.Frag} {G : Addr → Prop} {S : HD} {H : Hp} {w : World} (rh : RH K G S H) {a : Addr} {o : OD} {ys : List (D × D)} {ws : List (NestedKey × Addr × Value)} (h : S.hp a = some o) (r : RDt K G S H ys ws) : RH K G (S.set a (.dct w ys)) (upd H a (.ext (RawT w a ws))) ∧ FL S H (S.set a (.dct w ys)) (upd H a (.ext (RawT w a ws))) := by
  have m : Mv G S H G (S.set a (.dct w ys)) (upd H a (.ext (RawT w a ws))) := ⟨fun b o e z => by
    have ne : b ≠ a := fun q => by rw [← q, z.1] at h; cases h
    exact ⟨⟨by rw [HD.set_ne ne]; exact z.1, z.2.1, z.2.2⟩, by rw [upd_ne ne]; exact e⟩, fun _ e => e⟩
  exact rh.write h ⟨ws, upd_same, r.mv m⟩
theorem dg_subW (hr : RoomG k X.A) (ho : DE X o to) (hi : DE X i ti)
    (ha : ∀ v, assign (.Subscript o i pos) X.env v = (do
      let ov ← holding [v] (eval o X.env)
      let iv ← holding [v, ov] (eval i X.env)
      standAt pos
      holding [v, ov, iv] (setItem ov iv v)
      release [v, ov, iv] []) := by intro _; rfl) : DG X (.Subscript o i pos) (gSubW X.w to ti) :=
  (pg_sub ho hi (PSet.or (PSet.or set_list (set_dict hr.un1)) (set_tdict hr)) ha).imp fun v σ H Q ⟨G, σd, S, d, Qd, rs, rh, q, t, p⟩ =>
    ⟨G, σd, S, _, rs, rh, t, fun S1 d1 v1 H1 f1 rh1 q1 t1 => ⟨G, σd, S1, _, rs.fl f1, rh1, t1, fun S2 d2 v2 H2 f2 rh2 q2 t2 => by
      unfold rSetW at t2
      split at t2
      · rename_i w' kds e
        split at t2
        · rename_i nk ek
          obtain ⟨rfl, hd, hl, t2⟩ := t2
          obtain ⟨a, xs, rfl, e0, rfl, e1, r⟩ := tdOf_ok rh2 e (q1.fl f2)
          obtain ⟨b, rfl⟩ := keyT_ref ek q2
          have hlen := rdt_len r
          have hsl : (sizeLine : Nat) = 16777216 := rfl
          refine .inr ⟨a, b, xs, nk, rfl, rfl, e1, keysOk_of r, keyOk_of q2 (keyT_nk ek) hd, by omega, fun u ru => ?_⟩
          obtain ⟨rh', f'⟩ := rh2.writeT e0 (rdt_put q2 (keyT_nk ek) hd (q.fl (f1.trans f2)) ru r)
          exact p _ _ _ _ (f1.trans (f2.trans f')) rh' (rs.fl (f1.trans (f2.trans f'))) t2
        · exact t2.elim
      · rename_i hn
        clear hn
        refine .inl ?_
        unfold rSetX at t2
        split at t2
        · rename_i a
          split at t2
          · rename_i kds k e ek
            cases q1
            obtain ⟨_, _, ws, e1, r⟩ := rh2.hp _ _ e
            obtain ⟨rh', f'⟩ := rh2.writeD e (rdk_put k (q.fl (f1.trans f2)) r)
            refine .inr ⟨a, _, rfl, .inl ⟨ws, k, e1, key_v ek q2, ?_, rfl⟩, p _ _ _ _ (f1.trans (f2.trans f')) rh' (rs.fl (f1.trans (f2.trans f'))) t2.2⟩
            have := rdk_len r
            have : (sizeLine : Nat) = 16777216 := rfl
            omega
          · rename_i xs j e ek
            split at t2
            · rename_i n en
              have e2 := keyOf_eq ek
              subst e2
              cases q1
              cases q2
              obtain ⟨_, _, ws, e1, r⟩ := rh2.hp _ _ e
              obtain ⟨rh', f'⟩ := rh2.writeL e (r.set (q.fl (f1.trans f2)) n)
              exact .inl ⟨a, ws, j, n, rfl, rfl, e1, by rw [← r.length]; exact en, p _ _ _ _ (f1.trans (f2.trans f')) rh' (rs.fl (f1.trans (f2.trans f'))) t2⟩
            · exact t2.elim
          · exact t2.elim
        · exact t2.elim⟩⟩
/-! ### len -/
def rLenTD (X : Cx) (w : World) : List V → Hp → VK → Prop := fun vs H Q => ∃ (a : Addr) (xs : List (NestedKey × Addr × Value)), vs = [.ref a] ∧ H a = some (.ext (RawT w a xs)) ∧ KeysOk X.K H xs ∧ Q (.int ((xs.length : Nat) : Int)) H
theorem call_lenT : CallR X (.builtin "len") (rLenTD X X.w) := by
  intro pins s σ H xs us Q I r ⟨a, ys, e0, h, ks, q⟩
  subst e0
  obtain ⟨u, rfl, rx⟩ := vals1 r
  obtain rfl : u = .ref a := rx
  obtain ⟨hd, hz, dd⟩ := td_dict I h ks
  have hsl : (sizeLine : Nat) = 16777216 := rfl
  exact call_len_dictH (knd := nestedKind X.prog X.w) hd dd (by omega) ⟨.int ((ys.length : Nat) : Int), H, I.tok _, ⟨_, rfl⟩, q⟩
def rLenK : List V → Hp → VK → Prop := fun vs H Q => ∃ (a : Addr) (kvs : List (Key × V)), vs = [.ref a] ∧ Rd H a (.dK kvs) ∧ Q (.int ((kvs.length : Nat) : Int)) H
theorem call_lenK : CallR X (.builtin "len") rLenK := by
  intro pins s σ H xs us Q I r ⟨a, ys, e0, h, q⟩
  subst e0
  obtain ⟨u, rfl, rx⟩ := vals1 r
  obtain rfl : u = .ref a := rx
  exact d_len I h fun t s' I' => ⟨.int ((ys.length : Nat) : Int), H, I', ⟨_, rfl⟩, q⟩
def rLenW (w : World) : SpD := fun ds S Q => match ds with
  | [x] => (match tdOf S x with
    | some (w', kds) => w' = w ∧ Q (.int (kds.length : Nat)) S
    | none => (match asDic S x with
      | some kds => Q (.int (kds.length : Nat)) S
      | none => rLenD [x] S Q))
  | _ => False
theorem call_lenW : CallRD X (.builtin "len") (rLenW X.w) := by
  intro pins s σ H vs us ds G S Qd Q I rv rd rh t p
  unfold rLenW at t
  split at t
  · rename_i x
    split at t
    · rename_i w' kds e
      obtain ⟨rfl, t⟩ := t
      cases rd with
      | cons q1 r1 =>
        cases r1
        obtain ⟨a, xs, rfl, _, rfl, e1, r⟩ := tdOf_ok rh e q1
        refine call_lenT pins s σ H _ us Q I rv ⟨a, xs, rfl, e1, keysOk_of r, ?_⟩
        rw [← rdt_len r]
        exact p.here rh (.int _) t
    · split at t
      · rename_i kds e
        cases rd with
        | cons q1 r1 =>
          cases r1
          obtain ⟨a, kvs, rfl, r0, r⟩ := asDic_ok rh e q1
          refine call_lenK pins s σ H _ us Q I rv ⟨a, kvs, rfl, r0, ?_⟩
          rw [← rdk_len r]
          exact p.here rh (.int _) t
      · exact call_lenRD pins s σ H vs us _ G S Qd Q I rv rd rh t p
  · exact t.elim
end
end PD
end

section
/-! PD32: methods of dicts of any keys; displays of dicts that change. -/
namespace PD
open PySem PySem.Spec PyProof.Rows L2
/-- a dict, whatever its keys -/
def IsDV (w : World) (H : Hp) (a : Addr) : Prop := (∃ kvs, Rd H a (.dK kvs)) ∨ ∃ xs, H a = some (.ext (RawT w a xs))
section
variable {X : Cx} {pins : List (Addr × Obj)} {σ : L2.St} {H : Hp} {s : Shared} {a : Addr}
theorem isDV_at (I : Inv X pins σ H s) (d : IsDV X.w H a) : s.TypeIs (.ref a) "dict" ∧ (∀ b, Value.ref a = .ref b → ∃ ob, s.heap.get? b = some ob ∧ ob.dict = none) := by
  rcases d with ⟨kvs, e⟩ | ⟨xs, e⟩
  · obtain ⟨_, hd, vs, _, dd⟩ := dk_rd I.hok e
    refine ⟨dd.typeIs, fun b q => ?_⟩
    cases q
    obtain ⟨ob, _, _, h1, h2, _⟩ := dd
    exact ⟨ob, h1, h2.2.1⟩
  · obtain ⟨⟨o, es, ep, h1, h2, _⟩, _, _⟩ := (show ObjOk X.prog X.w H s.heap a (.ext (RawT X.w a xs)) from I.hok a _ e)
    refine ⟨⟨o, h1, h2.1⟩, fun b q => ?_⟩
    cases q
    exact ⟨o, h1, h2.2.1⟩
end
def tBMD (w : World) (r : V → List V → Hp → VK → Prop) (to : TE) (t : TA) : TE := fun σ H Q => to σ H fun x H1 => (∃ a, x = .ref a ∧ IsDV w H1 a) ∧ t σ H1 fun xs H2 => r x xs H2 Q
section
variable {X : Cx} {o e : Expr} {es : List Expr} {to : TE} {t : TA} {name : Str} {apos cpos : Pos} {id : String} {r : V → List V → Hp → VK → Prop}
theorem pe_bmD (slot : Slot "dict" name id) (hty : typeOf (.builtin id) = pure (.type "method_descriptor")) (hm : MtR X id r) (ho : PE X o to) (ha : PA X (e :: es) t)
    (hbase : attributeBase o name X.env (eval o X.env) = eval o X.env := by rfl)
    (hfew : ((backTo cpos (starEach (e :: es) X.env)).all (fun x => !x.1) && (backToKw cpos (keywordEach [] X.env)).all (fun x => x.1.isSome)
      && decide ((e :: es).length + ([] : List Keyword).length + (if ([] : List Keyword).isEmpty then 0 else 1) < 30)) = true := by rfl)
    (hline : (apos.endLine == cpos.line) = true := by rfl) (hs : starEach (e :: es) X.env = (false, eval e X.env) :: starEach es X.env := by rfl) (hplain : (backTo cpos (starEach es X.env)).any (·.1) = false := by rfl) :
    PE X (.Call (.Attribute o name apos) (e :: es) [] cpos) (tBMD X.w r to t) := by
  refine ⟨fun pins s σ H Q I h => ?_⟩
  refine wpAny_Call_method_late hbase hfew hline rfl (thn (ho.run pins s σ H _ I h) fun v s1 ⟨x, H1, I1, r1, ⟨a, ex, ty⟩, q1⟩ => ?_)
  subst ex
  obtain rfl : v = Value.ref a := r1
  obtain ⟨h1, h2⟩ := isDV_at I1 ty
  refine ⟨"dict", id, PySem.F.plainAttrs_dict, slot, hty, h1, h2, ?_⟩
  have hA := ha.run cpos pins s1 σ H1 _ I1 q1
  rw [hs] at hA ⊢
  refine Calls.callWith_builtin (by show (false || (backTo cpos (starEach es X.env)).any (·.1)) = false; rw [hplain] <;> rfl) (Calls.evalArgs_plain ?_)
  exact thn hA fun us s2 ⟨vs, H2, I2, r2, q2⟩ => hm pins s2 σ H2 (.ref a) vs (.ref a) us Q I2 rfl r2 q2
end
/-- a dict of any kind, deep -/
def isDic (w : World) (S : HD) (d : D) : Prop := (∃ kds, asDic S d = some kds) ∨ ∃ kds, tdOf S d = some (w, kds)
def tMethW (w : World) (rd : D → List D → HD → QD → Prop) (to : TED) (ta : TAD) : TED := fun σ S Q => to σ S fun x S1 => isDic w S1 x ∧ ta σ S1 fun ds S2 => rd x ds S2 Q
section
variable {K : PySem.W.Frag} {G : Addr → Prop} {S : HD} {H : Hp}
theorem isDic_ok {w : World} (rh : RH K G S H) {d : D} {v : V} (h : isDic w S d) (q : RD K G S H d v) : ∃ a, v = .ref a ∧ IsDV w H a := by
  rcases h with ⟨kds, e⟩ | ⟨kds, e⟩
  · obtain ⟨p, kvs, rfl, r0, _⟩ := asDic_ok rh e q
    exact ⟨p, rfl, .inl ⟨kvs, r0⟩⟩
  · obtain ⟨a, xs, _, _, rfl, e1, _⟩ := tdOf_ok rh e q
    exact ⟨a, rfl, .inr ⟨xs, e1⟩⟩
end
section
variable {X : Cx} {o e : Expr} {es : List Expr} {to te : TED} {tA : TAD} {name : Str} {apos cpos pos : Pos}
theorem de_methW {id : String} {r : V → List V → Hp → VK → Prop} {rd : D → List D → HD → QD → Prop} (slot : Slot "dict" name id) (hty : typeOf (.builtin id) = pure (.type "method_descriptor")) (hm : MtR X id r)
    (i : ∀ G S H d v ds vs Qd Q, RH X.K G S H → RD X.K G S H d v → RDs X.K G S H ds vs → rd d ds S Qd → Post X.K G S H Qd Q → r v vs H Q) (ho : DE X o to) (ha : DA X (e :: es) tA)
    (hbase : attributeBase o name X.env (eval o X.env) = eval o X.env := by rfl)
    (hfew : ((backTo cpos (starEach (e :: es) X.env)).all (fun x => !x.1) && (backToKw cpos (keywordEach [] X.env)).all (fun x => x.1.isSome)
      && decide ((e :: es).length + ([] : List Keyword).length + (if ([] : List Keyword).isEmpty then 0 else 1) < 30)) = true := by rfl)
    (hline : (apos.endLine == cpos.line) = true := by rfl) (hs : starEach (e :: es) X.env = (false, eval e X.env) :: starEach es X.env := by rfl) (hplain : (backTo cpos (starEach es X.env)).any (·.1) = false := by rfl) :
    DE X (.Call (.Attribute o name apos) (e :: es) [] cpos) (tMethW X.w rd to tA) :=
  (pe_bmD slot hty hm ho ha hbase hfew hline hs hplain).imp fun σ H Q ⟨G, σd, S, Qd, rs, rh, t, p⟩ => ⟨G, σd, S, _, rs, rh, t, fun S1 d v H1 f1 rh1 q1 ⟨hl, t1⟩ =>
    ⟨isDic_ok rh1 hl q1, G, σd, S1, _, rs.fl f1, rh1, t1, fun S2 ds vs H2 f2 rh2 q2 t2 => i G S2 H2 _ _ ds vs _ _ rh2 (q1.fl f2) q2 t2 (p.fl (f1.trans f2))⟩⟩
/-! ### get -/
def rGet (K : PySem.W.Frag) (w : World) : V → List V → Hp → VK → Prop := fun x vs H Q => ∃ a y z, x = .ref a ∧ (vs = [y] ∧ z = V.non ∨ vs = [y, z]) ∧
  ((∃ ov, DGet H a y ov ∧ Q (ov.getD z) H) ∨ (∃ b xs nk, y = .ref b ∧ H a = some (.ext (RawT w a xs)) ∧ KeysOk K H xs ∧ KeyOk K H nk b ∧ (∀ c u v, atKey xs nk = some (c, u) → RelV v u → Q v H) ∧ (atKey xs nk = none → Q z H) ∧ ∀ c u, atKey xs nk = some (c, u) → ∃ v, RelV v u) ∨
   ∃ kvs, y = .non ∧ Rd H a (.dK kvs) ∧ Q z H)
theorem mt_getW {k : Nat} (hr : RoomG k X.A) : MtR X "dict.get" (rGet X.K X.w) := by
  intro pins s σ H x xs v us Q I rx rs ⟨a, y, z, e1, e2, h⟩
  subst e1
  obtain rfl : v = Value.ref a := rx
  have key : ∀ (r : Value) (u : Value), RelV y u → RelV z r → (us = [u] ∧ r = Value.none ∨ us = [u, r]) → wpAny (model X.prog X.w) X.A (call (.builtin "dict.get") (.ref a :: us)) (EP X pins σ Q) X.xe s := by
    intro r u ry rz eu
    rcases h with ⟨ov, g, q⟩ | ⟨b, ys, nk, rfl, hx, ks, ki, q1, q2, q3⟩ | ⟨kvs, rfl, hx, q⟩
    · rcases eu with ⟨rfl, rfl⟩ | rfl
      · have ez : z = .non := by
          rcases e2 with ⟨_, e⟩ | e
          · exact e
          · subst e; have := rs.length; simp at this
        subst ez
        exact d_get1 hr.un1 I g ry fun w' s' I' rw' => ⟨_, H, I', rw', q⟩
      · exact d_get2 hr.un1 I g ry rz fun w' s' I' rw' => ⟨_, H, I', rw', q⟩
    · obtain rfl : u = Value.ref b := ry
      obtain ⟨hd, hz, dd⟩ := td_dict I hx ks
      have fin : EP X pins σ Q (((atKey ys nk).map (·.2)).getD r) { s with toks := s.toks + (nestedKind X.prog X.w).draws nk } := by
        cases hk : atKey ys nk with
        | none => exact ⟨z, H, I.tok _, rz, q2 hk⟩
        | some p =>
          obtain ⟨c, u⟩ := p
          obtain ⟨v', rv'⟩ := q3 c u hk
          exact ⟨v', H, I.tok _, rv', q1 c u v' hk rv'⟩
      rcases eu with ⟨rfl, rfl⟩ | rfl
      · exact call_meetsIn PySem.F.slot_dict_get dd.typeIs PySem.F.entry_dict_get (PySem.F.args_dict_get_2 _ _) (meetsH_dict_get (nestedKind X.prog X.w) a b hd) ⟨room_nest hr, nk, ys, keyAt_is I ki, dd, fin⟩
      · exact call_meetsIn PySem.F.slot_dict_get dd.typeIs PySem.F.entry_dict_get (PySem.F.args_dict_get_3 _ _ _) (meetsH_dict_get_default (nestedKind X.prog X.w) a b hd r) ⟨room_nest hr, nk, ys, keyAt_is I ki, dd, fin⟩
    · obtain rfl : u = Value.none := ry
      obtain ⟨hd, f, hm, hf⟩ := none_map I hx
      rcases eu with ⟨rfl, rfl⟩ | rfl
      · refine call_meetsIn PySem.F.slot_dict_get hm.typeIs PySem.F.entry_dict_get (PySem.F.args_dict_get_2 _ _) (meets_dict_get (leafKind X.prog X.w) a (k := Leaf.none) rfl hd) ⟨f, hm, ?_⟩
        rw [hf]
        exact ⟨z, H, I.tok _, rz, q⟩
      · refine call_meetsIn PySem.F.slot_dict_get hm.typeIs PySem.F.entry_dict_get (PySem.F.args_dict_get_3 _ _ _) (meets_dict_get_default (leafKind X.prog X.w) a (k := Leaf.none) rfl hd r) ⟨f, hm, ?_⟩
        rw [hf]
        exact ⟨z, H, I.tok _, rz, q⟩
  rcases e2 with ⟨rfl, rfl⟩ | rfl
  · obtain ⟨u, rfl, ru⟩ := rs.one
    exact key .none u ru rfl (.inl ⟨rfl, rfl⟩)
  · cases rs with
    | cons r1 rs =>
      cases rs with
      | cons r2 rs =>
        cases rs
        exact key _ _ r1 r2 (.inr rfl)
def rGetAt (w : World) (x y z : D) (S : HD) (Q : QD) : Prop := match tdOf S x with
  | some (w', kds) => (match keyT y with
    | some nk => w' = w ∧ nk.depth ≤ 8 ∧ Q ((getT kds nk).getD z) S
    | none => False)
  | none => (match asDic S x with
    | some kds => (match y with
      | .non => Q z S
      | y => (match keyOf y with
        | some k => Q ((getK kds k).getD z) S
        | none => False))
    | none => False)
def rGetW (w : World) : D → List D → HD → QD → Prop := fun x ds S Q => match ds with
  | [y] => rGetAt w x y .non S Q
  | [y, z] => rGetAt w x y z S Q
  | _ => False
theorem getAt_ok {G : Addr → Prop} {S : HD} {H : Hp} {x y z : D} {v vy vz : V} {vs : List V} {Qd : QD} {Q : VK} (rh : RH X.K G S H) (q1 : RD X.K G S H x v) (q2 : RD X.K G S H y vy) (q3 : RD X.K G S H z vz) (hv : vs = [vy] ∧ vz = V.non ∨ vs = [vy, vz]) (t : rGetAt X.w x y z S Qd) (p : Post X.K G S H Qd Q) : rGet X.K X.w v vs H Q := by
  unfold rGetAt at t
  split at t
  · rename_i w' kds e
    split at t
    · rename_i nk ek
      obtain ⟨rfl, hd, t⟩ := t
      obtain ⟨a, xs, rfl, _, rfl, e1, r⟩ := tdOf_ok rh e q1
      obtain ⟨b, rfl⟩ := keyT_ref ek q2
      refine ⟨a, _, vz, rfl, hv, .inr (.inl ⟨b, xs, nk, rfl, e1, keysOk_of r, keyOk_of q2 (keyT_nk ek) hd, ?_⟩)⟩
      rcases rdt_get nk r with ⟨z1, z2⟩ | ⟨d, b', v', u, z1, z2, z3, z4⟩
      · rw [z1] at t
        exact ⟨fun c u v' hk => (by rw [z2] at hk; cases hk), fun _ => p.here rh q3 t, fun c u hk => (by rw [z2] at hk; cases hk)⟩
      · rw [z1] at t
        refine ⟨fun c u2 v2 hk rv => ?_, fun hk => (by rw [z2] at hk; cases hk), fun c u2 hk => ?_⟩
        · rw [z2] at hk; cases hk
          have : v2 = v' := RelV.inj rv z3
          subst this
          exact p.here rh z4 t
        · rw [z2] at hk; cases hk
          exact ⟨v', z3⟩
    · exact t.elim
  · split at t
    · rename_i kds e
      obtain ⟨a, kvs, rfl, r0, r⟩ := asDic_ok rh e q1
      split at t
      · cases q2
        exact ⟨a, _, vz, rfl, hv, .inr (.inr ⟨kvs, rfl, r0, p.here rh q3 t⟩)⟩
      · split at t
        · rename_i k ek
          have := key_v ek q2
          subst this
          refine ⟨a, _, vz, rfl, hv, .inl ⟨valV kvs k, .inl ⟨kvs, k, r0, rfl, rfl⟩, ?_⟩⟩
          rcases rdk_get k r with ⟨z1, z2⟩ | ⟨d, v', z1, z2, z3⟩
          · rw [z1] at t; rw [z2]
            exact p.here rh q3 t
          · rw [z1] at t; rw [z2]
            exact p.here rh z3 t
        · exact t.elim
    · exact t.elim
theorem getW_ok : ∀ G S H d v ds vs Qd Q, RH X.K G S H → RD X.K G S H d v → RDs X.K G S H ds vs → rGetW X.w d ds S Qd → Post X.K G S H Qd Q → rGet X.K X.w v vs H Q := by
  intro G S H d v ds vs Qd Q rh q1 q2 t p
  unfold rGetW at t
  split at t
  · cases q2 with
    | cons a r => cases r; exact getAt_ok rh q1 a .non (.inl ⟨rfl, rfl⟩) t p
  · cases q2 with
    | cons a r => cases r with
      | cons b r => cases r; exact getAt_ok rh q1 a b (.inr rfl) t p
  · exact t.elim
theorem de_getW {k : Nat} (hr : RoomG k X.A) (ho : DE X o to) (ha : DA X (e :: es) tA) (hbase : attributeBase o "get" X.env (eval o X.env) = eval o X.env := by rfl)
    (hfew : ((backTo cpos (starEach (e :: es) X.env)).all (fun x => !x.1) && (backToKw cpos (keywordEach [] X.env)).all (fun x => x.1.isSome)
      && decide ((e :: es).length + ([] : List Keyword).length + (if ([] : List Keyword).isEmpty then 0 else 1) < 30)) = true := by rfl)
    (hline : (apos.endLine == cpos.line) = true := by rfl) (hs : starEach (e :: es) X.env = (false, eval e X.env) :: starEach es X.env := by rfl) (hplain : (backTo cpos (starEach es X.env)).any (·.1) = false := by rfl) :
    DE X (.Call (.Attribute o "get" apos) (e :: es) [] cpos) (tMethW X.w (rGetW X.w) to tA) := de_methW PySem.F.slot_dict_get PySem.F.type_dict_get (mt_getW hr) getW_ok ho ha hbase hfew hline hs hplain
/-! ### setdefault -/
def rSetdV (K : PySem.W.Frag) (w : World) : V → List V → Hp → VK → Prop := fun x vs H Q => ∃ a y z, x = .ref a ∧ vs = [y, z] ∧
  ((∃ kvs k, H a = some (.dK kvs) ∧ y = kV k ∧ kvs.length < sizeLine ∧ (∀ v, valV kvs k = some v → Q v H) ∧ (valV kvs k = none → Q z (upd H a (.dK (putK kvs k z))))) ∨
   (∃ b xs nk, y = .ref b ∧ H a = some (.ext (RawT w a xs)) ∧ KeysOk K H xs ∧ KeyOk K H nk b ∧ xs.length < sizeLine ∧ (∀ c u, atKey xs nk = some (c, u) → ∃ v, RelV v u ∧ Q v H) ∧ (atKey xs nk = none → ∀ u, RelV z u → Q z (upd H a (.ext (RawT w a (storedH xs nk b u)))))))
theorem mt_setdW {k : Nat} (hr : RoomG k X.A) : MtR X "dict.setdefault" (rSetdV X.K X.w) := by
  intro pins s σ H x xs v us Q I rx rs ⟨a, y, z, e1, e2, h⟩
  subst e1 e2
  obtain rfl : v = Value.ref a := rx
  cases rs with
  | @cons _ u _ _ ry rs =>
    cases rs with
    | @cons _ r _ _ rz rs =>
      cases rs
      rcases h with ⟨kvs, k, hx, rfl, hl, q1, q2⟩ | ⟨b, ys, nk, rfl, hx, ks, ki, hl, q1, q2⟩
      · exact d_setd I hx ry rz hl (fun v hv w' s' I' rw' => ⟨v, _, I', rw', q1 v hv⟩) fun hn w' s' I' rw' => ⟨z, _, I', rw', q2 hn⟩
      · obtain rfl : u = Value.ref b := ry
        obtain ⟨hd, hz, dd⟩ := td_dict I hx ks
        refine call_setdefault_heap (knd := nestedKind X.prog X.w) (room_nest hr) (keyAt_is I ki) hd dd (fun p hp => ?_) (fun hn h' dd' hs => ?_) (hsz := hz)
        · obtain ⟨c, u⟩ := p
          obtain ⟨v', rv', q⟩ := q1 c u hp
          exact ⟨v', H, I.tok _, rv', q⟩
        · have he : ∃ q, h'.get? a = some q := let ⟨q, _, _, hq, _⟩ := dd'; ⟨q, hq⟩
          have hz' : (storedH ys nk b r).length ≤ sizeLine := by have := storedH_length ys nk b r; omega
          exact ⟨z, _, d_write I (by rw [hx]; exact True.intro) hs he (raw_ok hd hz' dd'), rz, q2 hn r rz⟩
def rSetdW (w : World) : D → List D → HD → QD → Prop := fun x ds S Q => match x, ds with
  | .ref a, [y, z] => (match S.hp a with
    | some (.dct w' kds) => (match keyT y with
      | some nk => w' = w ∧ nk.depth ≤ 8 ∧ kds.length < 16000000 ∧ (match getT kds nk with
        | some v => Q v S
        | none => Q z (S.set a (.dct w (putT kds y nk z))))
      | none => False)
    | some (.dic kds) => (match keyOf y with
      | some k => kds.length < 16000000 ∧ (match getK kds k with
        | some v => Q v S
        | none => Q z (S.set a (.dic (putD kds k z))))
      | none => False)
    | _ => False)
  | _, _ => False
theorem RelV.ex {K : PySem.W.Frag} {G : Addr → Prop} {S : HD} {H : Hp} {d : D} {v : V} (q : RD K G S H d v) : True := trivial
theorem setdW_ok : ∀ G S H d v ds vs Qd Q, RH X.K G S H → RD X.K G S H d v → RDs X.K G S H ds vs → rSetdW X.w d ds S Qd → Post X.K G S H Qd Q → rSetdV X.K X.w v vs H Q := by
  intro G S H d v ds vs Qd Q rh q1 q2 t p
  have hsl : (sizeLine : Nat) = 16777216 := rfl
  unfold rSetdW at t
  split at t
  · rename_i a y z
    cases q2 with
    | cons qy r => cases r with
      | cons qz r =>
        cases r
        split at t
        · rename_i w' kds e
          split at t
          · rename_i nk ek
            obtain ⟨rfl, hd, hl, t⟩ := t
            cases q1
            obtain ⟨_, _, xs, e1, r⟩ := rh.hp a _ e
            obtain ⟨b, rfl⟩ := keyT_ref ek qy
            have hlen := rdt_len r
            refine ⟨a, _, _, rfl, rfl, .inr ⟨b, xs, nk, rfl, e1, keysOk_of r, keyOk_of qy (keyT_nk ek) hd, by omega, ?_⟩⟩
            rcases rdt_get nk r with ⟨z1, z2⟩ | ⟨d, b', v', u, z1, z2, z3, z4⟩
            · rw [z1] at t
              refine ⟨fun c u hk => (by rw [z2] at hk; cases hk), fun _ u ru => ?_⟩
              obtain ⟨rh', f'⟩ := rh.writeT e (rdt_put qy (keyT_nk ek) hd qz ru r)
              exact p _ _ _ _ f' rh' (qz.fl f') t
            · rw [z1] at t
              refine ⟨fun c u hk => ?_, fun hk => (by rw [z2] at hk; cases hk)⟩
              rw [z2] at hk; cases hk
              exact ⟨v', z3, p.here rh z4 t⟩
          · exact t.elim
        · rename_i kds e
          split at t
          · rename_i k ek
            obtain ⟨hl, t⟩ := t
            cases q1
            obtain ⟨_, _, kvs, e1, r⟩ := rh.hp a _ e
            have := key_v ek qy
            subst this
            have hlen := rdk_len r
            refine ⟨a, _, _, rfl, rfl, .inl ⟨kvs, k, e1, rfl, by omega, ?_⟩⟩
            rcases rdk_get k r with ⟨z1, z2⟩ | ⟨d, v', z1, z2, z3⟩
            · rw [z1] at t
              refine ⟨fun v' hk => (by rw [z2] at hk; cases hk), fun _ => ?_⟩
              obtain ⟨rh', f'⟩ := rh.writeD e (rdk_put k qz r)
              exact p _ _ _ _ f' rh' (qz.fl f') t
            · rw [z1] at t
              refine ⟨fun v2 hk => ?_, fun hk => (by rw [z2] at hk; cases hk)⟩
              rw [z2] at hk; cases hk
              exact p.here rh z3 t
          · exact t.elim
        · exact t.elim
  · exact t.elim
theorem de_setdW {k : Nat} (hr : RoomG k X.A) (ho : DE X o to) (ha : DA X (e :: es) tA) (hbase : attributeBase o "setdefault" X.env (eval o X.env) = eval o X.env := by rfl)
    (hfew : ((backTo cpos (starEach (e :: es) X.env)).all (fun x => !x.1) && (backToKw cpos (keywordEach [] X.env)).all (fun x => x.1.isSome)
      && decide ((e :: es).length + ([] : List Keyword).length + (if ([] : List Keyword).isEmpty then 0 else 1) < 30)) = true := by rfl)
    (hline : (apos.endLine == cpos.line) = true := by rfl) (hs : starEach (e :: es) X.env = (false, eval e X.env) :: starEach es X.env := by rfl) (hplain : (backTo cpos (starEach es X.env)).any (·.1) = false := by rfl) :
    DE X (.Call (.Attribute o "setdefault" apos) (e :: es) [] cpos) (tMethW X.w (rSetdW X.w) to tA) := de_methW PySem.F.slot_dict_setdefault PySem.F.type_dict_setdefault (mt_setdW hr) setdW_ok ho ha hbase hfew hline hs hplain
end
end PD
end

section
/-! PD33: displays of dicts that change; list(d); len(set(xs)); a dict is frozen. -/
namespace PD
open PySem PySem.Spec PyProof.Rows L2
section
variable {K : PySem.W.Frag} {G : Addr → Prop} {S S1 S2 : HD} {H H1 H2 : Hp} {q : Addr} {od : OD}
theorem res_mvT (h : S2.hp q = none) : Mv (Res G q) S2 H2 G (S2.set q od) H2 := ⟨fun a o e z => by
    have ne : a ≠ q := fun w => z.2.2 (.inr w)
    exact ⟨⟨by rw [HD.set_ne ne]; exact z.1, z.2.1, fun g => z.2.2 (.inl g)⟩, e⟩, fun _ e => e⟩
/-- the held place is tracked from now on -/
theorem res_track (rh1 : RH K G S1 H1) (hq : H1 q = none) (f2 : FL S1 H1 S2 H2) (rh2 : RH K (Res G q) S2 H2) (rod : ROD K G (S2.set q od) H2 q od) : RH K G (S2.set q od) H2 ∧ FL S1 H1 (S2.set q od) H2 := by
  have n2 := (RH.resFree rh2).1
  have d2 := (RH.resFree rh2).2
  have ngq : ¬ G q := fun g => by
    obtain ⟨⟨o, e⟩, _⟩ := rh1.rs q g
    rw [hq] at e; cases e
  refine ⟨⟨fun a u e => ?_, fun a g => rh2.rs a (.inl g), fun a b e => ?_⟩, ⟨fun a o e n d => by
    obtain ⟨n', d', e'⟩ := f2.kp a o e n d
    exact ⟨by rw [HD.set_ne (ne_of_none e hq)]; exact n', d', e'⟩, f2.dk⟩⟩
  · by_cases ha : a = q
    · subst ha
      rw [HD.set_same] at e; cases e
      exact ⟨d2, ngq, rod⟩
    · rw [HD.set_ne ha] at e
      obtain ⟨h1, h2, h3⟩ := rh2.hp a u e
      exact ⟨h1, fun g => h2 (.inl g), h3.mv (res_mvT n2) rfl⟩
  · obtain ⟨h1, h2, h3, h4⟩ := rh2.dk a b e
    have na : a ≠ q := fun z => d2 ⟨_, e, .inl z.symm⟩
    have nb : b ≠ q := fun z => d2 ⟨_, e, .inr z.symm⟩
    exact ⟨h1, by rw [HD.set_ne na]; exact h2, by rw [HD.set_ne nb]; exact h3, h4⟩
theorem res_trackD {kds : List (D × D)} {kvs : List (Key × V)} (rh1 : RH K G S1 H1) (hq : H1 q = none) (f2 : FL S1 H1 S2 H2) (rh2 : RH K (Res G q) S2 H2) (e : H2 q = some (.dK kvs)) (r : RDk K (Res G q) S2 H2 kds kvs) : RH K G (S2.set q (.dic kds)) H2 ∧ FL S1 H1 (S2.set q (.dic kds)) H2 :=
  res_track rh1 hq f2 rh2 ⟨kvs, e, r.mv (res_mvT (RH.resFree rh2).1)⟩
theorem res_trackT {w : World} {kds : List (D × D)} {xs : List (NestedKey × Addr × Value)} (rh1 : RH K G S1 H1) (hq : H1 q = none) (f2 : FL S1 H1 S2 H2) (rh2 : RH K (Res G q) S2 H2) (e : H2 q = some (.ext (RawT w q xs))) (r : RDt K (Res G q) S2 H2 kds xs) : RH K G (S2.set q (.dct w kds)) H2 ∧ FL S1 H1 (S2.set q (.dct w kds)) H2 :=
  res_track rh1 hq f2 rh2 ⟨xs, e, r.mv (res_mvT (RH.resFree rh2).1)⟩
end
/-- a tracked dict is frozen -/
theorem Cv.frzD {a : Addr} {S : HD} {xs : List (D × D)} (h : S.hp a = some (.dic xs)) : Cv (.ref a) S (.dic xs) (S.del a) := fun K G H v r q => by
  obtain ⟨h1, h2, vs, h3, h4⟩ := r.hp a _ h
  cases q
  exact ⟨r.le (del_le S a), (del_le S a).fl, .dic ⟨⟨by simp [HD.del], fun z => h1 ((del_le S a).dkE.mp z), h2⟩, .inl h3⟩ (h4.mv (del_le S a).mv)⟩
theorem fin.frzD {Q : QD} {a : Addr} {S S' : HD} {xs : List (D × D)} (h : S'.hp a = some (.dic xs)) (l : HLe S (S'.del a)) (q : Q (.dic xs) S) : fin Q (.ref a) S' := ⟨S, _, (Cv.frzD h).trans (.le l), q⟩
/-- {k: v, ..}, a dict that is to change -/
def tDispR (trs : List (TED × TED)) : TED := fun σ S Q => tPairsD trs σ S fun ps S2 => ps.length ≤ 15 ∧ ∀ q, S2.hp q = none → Q (.ref q) (S2.set q (.dic (putAll ps [])))
section
variable {X : Cx} {pos : Pos} {keys : List (Option Expr)} {values : List Expr} {trs : List (TED × TED)} {k v : Expr} {tk tv : TED}
theorem de_dispR (h : DPs X pos keys values trs) (hall : keys.all (·.isSome) = true := by rfl) (hl : keys.length = values.length := by rfl) (h0 : keys ≠ [] := by simp) (h15 : keys.length ≤ 15 := by decide) : DE X (.Dict keys values pos) (tDispR trs) :=
  (pe_disp h hall hl h0 h15).imp fun σ H Q ⟨G, σd, S, Qd, rs, rh, t, p⟩ => fun q hq => by
    refine pairs_up trs (G := Res G q) (rs.mv (res_in hq)) (rh.res hq _) t fun S' H' ps kvs f' rh' q' ⟨hl15, t'⟩ => ?_
    have fr := RH.resFree (rh.res hq (.dK []))
    have pk := (f'.kp q _ upd_same fr.1 fr.2).2.2
    have hlen : kvs.length = ps.length := by
      have := rdk_len q'
      unfold rKV at this
      rw [List.length_map] at this
      exact this.symm
    refine ⟨pk, kvs, rfl, by omega, ?_⟩
    have f2 : FL S H S' (upd H' q (.dK (mergeK [] kvs))) := (((Grow.upd hq).fl (S := S)).trans f').updp hq
    have rr := putAll_rel ps q' (.nil (K := X.K) (G := Res G q) (S := S') (H := H'))
    have rh2 := rh'.resW (p := q) (.dK (mergeK [] kvs))
    obtain ⟨rh3, f3⟩ := res_trackD rh hq f2 rh2 upd_same (rr.mv res_mv)
    exact p _ _ _ _ f3 rh3 (.ref q) (t' q (RH.resFree rh').1)
/-- {k: v}, the key a tuple -/
def tDisp1T (w : World) (tk tv : TED) : TED := fun σ S Q => tk σ S fun x S1 => tv σ S1 fun y S2 => match keyT x with
  | some nk => nk.depth ≤ 8 ∧ ∀ q, S2.hp q = none → Q (.ref q) (S2.set q (.dct w [(x, y)]))
  | none => False
def tDisp1V (K : PySem.W.Frag) (w : World) (tk tv : TE) : TE := fun σ H Q => ∀ p, H p = none → tk σ (upd H p (.ext (RawT w p []))) fun x H1 => tv σ H1 fun y H2 => H2 p = some (.ext (RawT w p [])) ∧ ∃ b nk, x = .ref b ∧ KeyOk K H2 nk b ∧ ∀ u, RelV y u → Q (.ref p) (upd H2 p (.ext (RawT w p [(nk, b, u)])))
theorem pe_disp1 {n : Nat} {tk tv : TE} (hr : RoomG n X.A) (hk : PE X k tk) (hv : PE X v tv) : PE X (.Dict [some k] [v] pos) (tDisp1V X.K X.w tk tv) := by
  refine ⟨fun pins s σ H Q I q => ?_⟩
  have hn := I.hok.fresh (Nat.le_refl s.heap.objs.size)
  have hd : (s.heap.objs.size == sysModules) = false := beq_eq_false_iff_ne.mpr (Ne.symm (Nat.ne_of_lt I.big))
  have I1 := I.laid (a := s.heap.objs.size) (o := .ext (RawT X.w s.heap.objs.size [])) (h' := s.heap.push { cls := .type "dict", data := .dict #[] }) (t' := s.toks) (fun _ _ q => Heap.get?_push_of_some _ q) (Nat.le_refl _)
    (raw_ok (P := X.prog) hd (Nat.zero_le _) (Heap.DictOfH.new s.heap))
  rw [arm_eval_Dict, zip_pairTrees [some k] [v] X.env pos rfl rfl, dictDisplay_pairs _ (by simp [pairTrees]) (by simp [pairTrees])]
  refine wpAny_bind (wpAny_standAt (wpAny_bind (wpAny_subDictH (knd := nestedKind X.prog X.w) (Q := fun d s' => wpAny (model X.prog X.w) X.A (pure (Value.ref d)) (EP X pins σ Q) X.xe s') (room_nest0 hr) (by simp [pairTrees]) ?_)))
  refine pairTrees_cons_walk (thn (hk.run pins _ σ _ _ I1 (q _ hn)) fun kv s1 ⟨x, H1, I2, rx, q1⟩ => thn (hv.run pins s1 σ H1 _ I2 q1) fun vv s2 ⟨y, H2, I3, ry, pk, b, nk, ex, ki, qf⟩ => pairTrees_nil_walk ?_)
  subst ex
  obtain rfl : kv = Value.ref b := rx
  obtain ⟨hd2, _, dd0⟩ := td_dict I3 pk (fun _ hx => nomatch hx)
  refine ⟨[(nk, b, vv)], ⟨rfl, rfl, keyAt_is I3 ki, trivial⟩, dd0, fun h' tk dd' hs => wpAny_pure ⟨.ref s.heap.objs.size, _, ?_, rfl, qf vv ry⟩⟩
  have he : ∃ q, h'.get? s.heap.objs.size = some q := let ⟨q, _, _, hq, _⟩ := dd'; ⟨q, hq⟩
  have e1 : storedAllH ([] : List (NestedKey × Addr × Value)) [(nk, b, vv)] = [(nk, b, vv)] := rfl
  rw [e1] at dd'
  exact d_write I3 (by rw [pk]; exact True.intro) hs he (raw_ok hd2 (by show 1 ≤ sizeLine; decide) dd')
theorem de_disp1 {n : Nat} (hr : RoomG n X.A) (hk : DE X k tk) (hv : DE X v tv) : DE X (.Dict [some k] [v] pos) (tDisp1T X.w tk tv) :=
  (pe_disp1 hr hk hv).imp fun σ H Q ⟨G, σd, S, Qd, rs, rh, t, p⟩ => fun q hq => by
    refine ⟨Res G q, σd, S, _, rs.mv (res_in hq), rh.res hq _, t, fun S1 x vx H1 f1 rh1 q1 t1 => ⟨Res G q, σd, S1, _, (rs.mv (res_in hq)).fl f1, rh1, t1, fun S2 y vy H2 f2 rh2 q2 t2 => ?_⟩⟩
    split at t2
    · rename_i nk ek
      obtain ⟨hd, t2⟩ := t2
      obtain ⟨b, rfl⟩ := keyT_ref ek q1
      have q1' := q1.fl f2
      have fr := RH.resFree (rh.res hq (.ext (RawT X.w q [])))
      have pk := ((f1.trans f2).kp q _ upd_same fr.1 fr.2).2.2
      refine ⟨pk, b, nk, rfl, keyOk_of q1' (keyT_nk ek) hd, fun u ru => ?_⟩
      have f3 : FL S H S2 (upd H2 q (.ext (RawT X.w q [(nk, b, u)]))) := (((Grow.upd hq).fl (S := S)).trans (f1.trans f2)).updp hq
      have rr : RDt X.K (Res G q) S2 H2 [(x, y)] [(nk, b, u)] := .cons q1' (keyT_nk ek) hd ru q2 .nil
      have rh3 := rh2.resW (p := q) (.ext (RawT X.w q [(nk, b, u)]))
      obtain ⟨rh4, f4⟩ := res_trackT rh hq f3 rh3 upd_same (rr.mv res_mv)
      exact p _ _ _ _ f4 rh4 (.ref q) (t2 q (RH.resFree rh2).1)
    · exact t2.elim
/-! ### list(d): the keys -/
def rListW (w : Bool) : SpD := fun ds S Q => match ds with
  | [.ref a] => (match S.hp a with
    | some (.dic kds) => if w = true then ∀ p, S.hp p = none → Q (.ref p) (S.set p (.lst (kds.map (·.1)))) else Q (.lst (kds.map (·.1))) S
    | _ => if w = true then rListR [.ref a] S Q else rListV [.ref a] S Q)
  | ds => if w = true then rListR ds S Q else rListV ds S Q
theorem rdk_keys {K : PySem.W.Frag} {G : Addr → Prop} {S : HD} {H : Hp} : ∀ {kds : List (D × D)} {kvs : List (Key × V)}, RDk K G S H kds kvs → RDs K G S H (kds.map (·.1)) (kvs.map fun kv => kV kv.1)
  | _, _, .nil => .nil
  | _, _, @RDk.cons _ _ _ _ k _ _ _ _ _ r => .cons (match k with | .inl i => .int i | .inr x => .str x) (rdk_keys r)
theorem call_listW (hc : X.calm = true) (w : Bool) : CallRD X (.type "list") (rListW w) := by
  intro pins s σ H vs us ds G S Qd Q I rv rd rh t p
  unfold rListW at t
  split at t
  · rename_i a
    split at t
    · rename_i kds e
      obtain ⟨_, _, kvs, e1, r⟩ := rh.hp a _ e
      cases rd with
      | cons q1 r1 =>
        cases r1
        cases q1
        refine call_list_dK hc pins s σ H _ us Q I rv ⟨a, kvs, rfl, e1, fun q hq => ?_⟩
        cases w with
        | true => exact p.newR rh (rdk_keys r) (by simpa using t) hq
        | false => exact p.newL rh (rdk_keys r) (by simpa using t) hq
    · cases w with
      | true => exact call_listR pins s σ H vs us _ G S Qd Q I rv rd rh (by simpa using t) p
      | false => exact call_listV pins s σ H vs us _ G S Qd Q I rv rd rh (by simpa using t) p
  · cases w with
    | true => exact call_listR pins s σ H vs us _ G S Qd Q I rv rd rh (by simpa using t) p
    | false => exact call_listV pins s σ H vs us _ G S Qd Q I rv rd rh (by simpa using t) p
/-! ### len(set(xs)) of whole numbers -/
/-- the items that are met first -/
def dist (ns : List Int) : List Int := ns.foldl (fun acc n => if acc.any (· == n) then acc else acc ++ [n]) []
theorem firstMet_fold (ns : List Int) : ∀ i, i ≤ ns.length → PyProof.Rows.firstMet (fun i => ns.getD i 0) i = dist (ns.take i)
  | 0, _ => rfl
  | i + 1, hi => by
    have hlt : i < ns.length := hi
    have e1 : ns.getD i 0 = ns[i] := by
      rw [List.getD_eq_getElem?_getD, List.getElem?_eq_getElem hlt] <;> rfl
    have e2 : ns.take (i + 1) = ns.take i ++ [ns[i]] := by
      rw [List.take_add_one, List.getElem?_eq_getElem hlt] <;> rfl
    have ih := firstMet_fold ns i (Nat.le_of_lt hlt)
    rw [PyProof.Rows.firstMet_succ, ih, e2]
    unfold dist
    rw [List.foldl_append, List.foldl_cons, List.foldl_nil, e1]
    rfl
def tLenSetD (te : TED) : TED := fun σ S Q => te σ S fun x S1 => match asLst S1 x with
  | some xs => (match intsOf xs with
    | some ns => ns.length ≤ 4000 ∧ Q (.int ((dist ns).length : Nat)) S1
    | none => False)
  | none => False
def tLenSetV (K : PySem.W.Frag) (ta : TE) : TE := fun σ H Q => ta σ H fun x H1 => ∃ (l : Addr) (ns : List Int), x = .ref l ∧ SqL K H1 l (ns.map V.int) ∧ ns.length ≤ 4000 ∧ Q (.int ((dist ns).length : Nat)) H1
theorem dist_le (ns : List Int) : (dist ns).length ≤ ns.length := by
  have key : ∀ (ns acc : List Int), (ns.foldl (fun acc n => if acc.any (· == n) then acc else acc ++ [n]) acc).length ≤ acc.length + ns.length := by
    intro ns
    induction ns with
    | nil => intro acc; simp
    | cons n ns ih =>
      intro acc
      rw [List.foldl_cons]
      refine Nat.le_trans (ih _) ?_
      split <;> simp <;> omega
  have := key ns []
  rw [List.length_nil, Nat.zero_add] at this
  exact this
theorem pe_lenSetV {a : Expr} {ta : TE} {p p2 q pos : Pos} (hg : Gl X "len") (hm : X.mg "len" = none) (hg2 : Gl X "set") (hm2 : X.mg "set" = none) (ha : PE X a ta) (hc : X.calm = true := by rfl)
    (na : starEach [a] X.env = (false, eval a X.env) :: starEach [] X.env := by rfl) : PE X (.Call (.Name "len" p) [.Call (.Name "set" p2) [a] [] q] [] pos) (tLenSetV X.K ta) := by
  refine ⟨fun pins s σ H Q I h => ?_⟩
  refine Call_ (ld_blt I hg hm boot_len ?_)
  refine PyProof.Rows.callWith_builtin1 (PyProof.Rows.args_cons ?_ rfl) rfl rfl
  refine Call_ (ld_blt I hg2 hm2 boot_set ?_)
  refine PyProof.Rows.callWith_type1 (PyProof.Rows.args_cons (thn (ha.run pins s σ H _ I h) fun v s1 ⟨x, H1, I1, r1, q1⟩ => PyProof.Rows.args_nil ?_) na) na rfl
  obtain ⟨l, ns, rfl, hq, hl, q1⟩ := q1
  cases r1
  obtain ⟨its, r, pl, hz⟩ := I1.list hq
  have hlen : its.toArray.size = ns.length := by rw [List.size_toArray, ← r.length, List.length_map]
  refine call_set_list (I1.ok.hd hc) pl.isList (by simpa using RZ.intsAre_vals r) (by rw [hlen]; unfold scanBound; omega) fun h' tk hS hk => ?_
  refine PyProof.Rows.args_nil ?_
  rw [hlen, firstMet_fold ns ns.length (Nat.le_refl _), List.take_length] at hS
  obtain ⟨o, es, ep, t, ho, hex, hd, _, _, _, hf, hn⟩ := hS
  have I2 : Inv X pins σ H1 { s1 with heap := h', toks := tk } := I1.kept fun b o e => hk b o (Heap.lt_size e) e
  have := dist_le ns
  exact call_len_set ho hex hd hf (by rw [hn] <;> omega) ⟨.int (dist ns).length, H1, I2.tok _, ⟨_, by rw [hn]⟩, q1⟩
theorem de_lenSet {a : Expr} {ta : TED} {p p2 q pos : Pos} (hm : X.mg "len" = none) (hm2 : X.mg "set" = none) (ha : DE X a ta) (hg : Gl X "len" := by rfl) (hg2 : Gl X "set" := by rfl) (hc : X.calm = true := by rfl)
    (na : starEach [a] X.env = (false, eval a X.env) :: starEach [] X.env := by rfl) : DE X (.Call (.Name "len" p) [.Call (.Name "set" p2) [a] [] q] [] pos) (tLenSetD ta) :=
  (pe_lenSetV hg hm hg2 hm2 ha hc na).imp fun σ H Q ⟨G, σd, S, Qd, rs, rh, t, p⟩ => ⟨G, σd, S, _, rs, rh, t, fun S1 d v H1 f1 rh1 q1 t1 => by
    split at t1
    · rename_i xs e
      split at t1
      · rename_i ns e2
        obtain ⟨a, ws, rfl, l, r⟩ := asLst_ok rh1 e q1
        rw [intsOf_eq e2] at r
        rw [rds_ints r] at l
        exact ⟨a, ns, rfl, l, t1.1, (p.fl f1).here rh1 (.int _) t1.2⟩
      · exact t1.elim
    · exact t1.elim⟩
end
end PD
end

section
/-! PD34: telling otherwise ahead of a statement; {} of any kind; a module's tuples; unpacking lists. -/
namespace PD
open PySem PySem.Spec PyProof.Rows L2
/-- the same slots, told otherwise -/
def CvS (σ : SD) (S : HD) (σ' : SD) (S' : HD) : Prop := ∀ (K : PySem.W.Frag) (G : Addr → Prop) (H : Hp) (τ : L2.St), RH K G S H → RSl K G S H σ τ → RH K G S' H ∧ FL S H S' H ∧ RSl K G S' H σ' τ
theorem CvS.refl (σ : SD) (S : HD) : CvS σ S σ S := fun _ _ _ _ r s => ⟨r, .refl _ _, s⟩
theorem CvS.trans {σ σ1 σ2 : SD} {S S1 S2 : HD} (a : CvS σ S σ1 S1) (b : CvS σ1 S1 σ2 S2) : CvS σ S σ2 S2 := fun K G H τ r s =>
  let ⟨r1, f1, s1⟩ := a K G H τ r s; let ⟨r2, f2, s2⟩ := b K G H τ r1 s1; ⟨r2, f1.trans f2, s2⟩
theorem CvS.slot {σ : SD} {S S' : HD} {i : Nat} {d d' : D} (h : gt σ i = some d) (c : Cv d S d' S') : CvS σ S (st σ i d') S' := fun K G H τ r s => by
  obtain ⟨v, h1, h2⟩ := s.sl i d (gt_some h)
  obtain ⟨r', f', q'⟩ := c K G H v r h2
  refine ⟨r', f', ?_⟩
  have s' := (s.fl f').set q' i
  rw [st_eq]
  have e : τ.set i (some v) = τ := by
    apply List.ext_getElem?
    intro j
    by_cases hj : i = j
    · subst hj
      have hi : i < τ.length := (List.getElem?_eq_some_iff.mp h1).1
      rw [List.getElem?_set_self hi, h1]
    · rw [List.getElem?_set_ne hj]
  rw [e] at s'
  exact s'
theorem CvS.frz {σ : SD} {S : HD} {i : Nat} {a : Addr} {xs : List D} (h : gt σ i = some (.ref a)) (e : S.hp a = some (.lst xs)) : CvS σ S (st σ i (.lst xs)) (S.del a) := CvS.slot h (Cv.frz e)
theorem CvS.frzD {σ : SD} {S : HD} {i : Nat} {a : Addr} {xs : List (D × D)} (h : gt σ i = some (.ref a)) (e : S.hp a = some (.dic xs)) : CvS σ S (st σ i (.dic xs)) (S.del a) := CvS.slot h (Cv.frzD e)
def sCvD (t : TSD) : TSD := fun D σ S => ∃ σ' S', CvS σ S σ' S' ∧ t D σ' S'
theorem ds_cv {X : Cx} {s : Stmt} {t : TSD} (h : DS X s t) : DS X s (sCvD t) :=
  h.imp fun D σ H ⟨G, σd, S, Dd, rs, rh, ⟨σ', S', cv, t⟩, p⟩ => let ⟨rh', f', rs'⟩ := cv _ _ _ _ rh rs; ⟨G, σ', S', Dd, rs', rh', t, p.fl f'⟩
section
variable {X : Cx} {pos : Pos} {o i e : Expr}
/-- {} with keys that are tuples -/
def tDicT (w : World) : TED := fun _ S Q => ∀ p, S.hp p = none → Q (.ref p) (S.set p (.dct w []))
theorem pe_dnewTT : PE X (.Dict [] [] pos) (fun _ H Q => ∀ p, H p = none → Q (.ref p) (upd H p (.ext (RawT X.w p [])))) := ⟨fun pins s σ H Q I h => by
  have hd : (s.heap.objs.size == sysModules) = false := beq_eq_false_iff_ne.mpr (Ne.symm (Nat.ne_of_lt I.big))
  exact wpAny_Dict_empty ⟨.ref s.heap.objs.size, _, I.laid (a := s.heap.objs.size) (o := .ext (RawT X.w s.heap.objs.size [])) (t' := s.toks) (fun _ _ q => Heap.get?_push_of_some _ q) (Nat.le_refl _)
    (raw_ok (P := X.prog) hd (Nat.zero_le _) (Heap.DictOfH.new s.heap)), rfl, h _ (I.hok.fresh (Nat.le_refl _))⟩⟩
theorem de_dicT : DE X (.Dict [] [] pos) (tDicT X.w) := pe_dnewTT.imp fun σ H Q ⟨G, σd, S, Qd, rs, rh, t, p⟩ => fun q hq => by
  obtain ⟨r', f'⟩ := rh.newR (o := .dct X.w []) (ho := .ext (RawT X.w q [])) hq ⟨[], upd_same, .nil⟩
  exact p _ _ _ _ f' r' (.ref q) (t q (rh.fresh hq).1)
def tDicW (w : World) : TED := fun σ S Q => tDicR σ S Q ∨ tDicT w σ S Q
theorem de_dicW : DE X (.Dict [] [] pos) (tDicW X.w) := ⟨fun pins s σ H Q I ⟨G, σd, S, Qd, rs, rh, t, p⟩ => t.elim (fun t => de_dicR.run pins s σ H Q I ⟨G, σd, S, Qd, rs, rh, t, p⟩) fun t => de_dicT.run pins s σ H Q I ⟨G, σd, S, Qd, rs, rh, t, p⟩⟩
/-! ### a module's tuple of flat items -/
def relB : D → Value → Bool
  | .non, .none => true
  | .bl b, .bool c => b == c
  | .int i, .int j _ => i == j
  | .str x, .str y _ => x == y
  | _, _ => false
def relsB : List D → List Value → Bool
  | [], [] => true
  | d :: ds, v :: vs => relB d v && relsB ds vs
  | _, _ => false
theorem relB_ok {K : PySem.W.Frag} {G : Addr → Prop} {S : HD} {H : Hp} : ∀ {d : D} {u : Value}, relB d u = true → RD K G S H d (toV d) ∧ RelV (toV d) u := by
  intro d u h
  cases d <;> cases u <;> first | cases h | skip
  · exact ⟨.non, rfl⟩
  · have e := eq_of_beq (show (_ == _) = true from h); subst e; exact ⟨.bl _, rfl⟩
  · have e := eq_of_beq (show (_ == _) = true from h); subst e; exact ⟨.int _, _, rfl⟩
  · have e := eq_of_beq (show (_ == _) = true from h); subst e; exact ⟨.str _, _, rfl⟩
theorem relsB_ok {K : PySem.W.Frag} {G : Addr → Prop} {S : HD} {H : Hp} : ∀ {ds : List D} {us : List Value}, relsB ds us = true → RDs K G S H ds (ds.map toV) ∧ Vals (ds.map toV) us
  | [], [], _ => ⟨.nil, .nil⟩
  | d :: ds, v :: vs, h => by
    have h' : (relB d v && relsB ds vs) = true := h
    rw [Bool.and_eq_true] at h'
    obtain ⟨a1, a2⟩ := relB_ok (K := K) (G := G) (S := S) (H := H) h'.1
    obtain ⟨b1, b2⟩ := relsB_ok (K := K) (G := G) (S := S) (H := H) h'.2
    exact ⟨.cons a1 b1, .cons a2 b2⟩
  | [], _ :: _, h => by cases h
  | _ :: _, [], h => by cases h
def KTD (K : PySem.W.Frag) (a : Addr) (ds : List D) : Prop := ∀ G S H, RD K G S H (.tup ds) (.ref a)
theorem ktd_mk {K : PySem.W.Frag} {a : Addr} {its : Array Value} {n : Nat} {dd : Option Addr} {sl : Array (Option Value)} {ds : List D} (l : K.lookup a = some ⟨.type "tuple", dd, .seq its n, sl⟩) (hz : its.size ≤ sizeLine) (h : relsB ds its.toList = true) : KTD K a ds := fun G S H =>
  let ⟨h1, h2⟩ := relsB_ok (K := K) (G := G) (S := S) (H := H) h
  .tup (.inr ⟨_, its, n, l, rfl, rfl, hz, h2⟩) h1
structure TupC (K : PySem.W.Frag) (mg : Str → Option Value) (x : Str) (ds : List D) : Prop where
  ex : ∃ a, mg x = some (.ref a) ∧ KTD K a ds
theorem tupC_mk {K : PySem.W.Frag} {h : Heap} {mg : Str → Option Value} (X : K.In h) (G : h.Ns mainGlobals mg) {x : Str} {a : Addr} {its : Array Value} {n : Nat} {dd : Option Addr} {sl : Array (Option Value)} {ds : List D}
    (y : PySem.W.nsIn K mainGlobals x = some (some (.ref a))) (l : K.lookup a = some ⟨.type "tuple", dd, .seq its n, sl⟩) (hz : decide (its.size ≤ sizeLine) = true) (h : relsB ds its.toList = true) : TupC K mg x ds := ⟨⟨a, PySem.W.mg_of X G y, ktd_mk l (of_decide_eq_true hz) h⟩⟩
theorem de_gT {x : Str} {ds : List D} (h : TupC X.K X.mg x ds) (hg : Gl X x := by rfl) (hd : (x == ("__debug__" : Str)) = false := by decide) : DE X (.Name x pos) (tCD (.tup ds)) := by
  obtain ⟨a, hm, k⟩ := h.ex
  exact de_c (pe_glob (v := .ref a) hg hm rfl hd) fun G S H => k G S H
/-! ### (a, b, ..) = a list or a tuple -/
def gSeqD (n : Nat) (t : TGsD) : TGD := fun d σ S Q => match asSeq S d with
  | some ds => ds.length = n ∧ t ds σ S Q
  | none => False
theorem dg_seq {es : List Expr} {k : Nat} {t : TGsD} {n : Nat} (hc : X.calm = true) (h : DGs X es t)
    (hn : (assignEach es X.env).length = n := by rfl) (hst : (assignEach es X.env).findIdx? (·.1) = none := by rfl) : DG X (.Tuple es k pos) (gSeqD n t) :=
  ⟨fun pins s σ H v u Q I r ⟨G, σd, S, d, Qd, rs, rh, q, tt, p⟩ => by
    unfold gSeqD at tt
    split at tt
    · rename_i ds e
      obtain ⟨a, vs, rfl, l, rr⟩ := asSeq_ok rh e q
      rcases l with l | l
      · exact (pg_unl hc h hn hst).run pins s σ H _ u Q I r ⟨a, vs, rfl, l, rr.length ▸ tt.1, G, σd, S, _, _, rs, rh, rr, tt.2, p⟩
      · exact (pg_tup hc h hn hst).run pins s σ H _ u Q I r ⟨a, vs, rfl, l, rr.length ▸ tt.1, G, σd, S, _, _, rs, rh, rr, tt.2, p⟩
    · exact tt.elim⟩
end
end PD
end

section
/-! PD35: raise, try .. except X .. of own classes without own __init__; defs that raise. -/
namespace PD
open PySem PySem.Spec PyProof.Rows L2
/-- an own class of errors -/
structure ExcC (K : PySem.W.Frag) (mg : Str → Option Value) (x : Str) (C : Addr) : Prop where
  gC : mg x = some (.ref C)
  kC : PySem.W.keepIn K (.ref C) = true
  q : ∃ (B newId initId : String) (bmB : List Value), ExcBaseFacts B newId initId bmB ∧ PySem.W.excIn K C bmB newId = true
  sub : PySem.W.subIn K (.ref C) (.type "BaseException") = some true
  ty : PySem.W.typeIn K (.ref C) = some (.type "type")
section
variable {X : Cx} {C : Addr} {bmB : List Value} {B newId initId : String}
theorem pmk_own0 {x : Str} {p pos : Pos} (F : ExcBaseFacts B newId initId bmB) (q : PySem.W.excIn X.K C bmB newId = true) (gC : X.mg x = some (.ref C)) (kC : PySem.W.keepIn X.K (.ref C) = true) (r : Raises X (.ref C)) (hg : Gl X x)
    (hdb : (x == ("__debug__" : Str)) = false := by decide) : PMk X (.Call (.Name x p) [] [] pos) (fun _ H Q => Q (.ref C) none H) := by
  intro pins s σ H Q I h
  refine wpAny_Call_Name_kw (ld_glob I hg gC ?_ hdb)
  refine PySem.W.callWith_K0 I.kIn kC ?_
  obtain ⟨bm, N, nm, qn, bs, hdct, sn, sub, ab, col, dd, k0, k1, k2, k3, k5, mN, hC, hN, hni, T⟩ := exc_obj I.kIn q
  refine wpAny_call_exc_subT F T hC hN hni (fun h' e hm => ?_) (by show 0 ≤ sizeLine; exact Nat.zero_le _)
  exact mk_of I hm r h (I.hok.gone hm.new)
end
def sRaiseD (C : Addr) : TSD := fun D σ S => D.xr C σ S
theorem ds_raise {X : Cx} {x : Str} {C : Addr} {p pos pos' : Pos} (e : ExcC X.K X.mg x C) (hc : X.calm = true := by rfl) (hg : Gl X x := by rfl) (hdb : (x == ("__debug__" : Str)) = false := by decide) :
    DS X (.Raise (some (.Call (.Name x p) [] [] pos)) none pos') (sRaiseD C) :=
  let ⟨_, _, _, _, F, q⟩ := e.q
  (ps_raise hc (takes_wx X) (pmk_own0 F q e.gC e.kC (raises_own e.sub e.ty) hg hdb)).imp fun D σ H ⟨G, σd, S, Dd, rs, rh, t, p⟩ => p.xr C S σd σ H (.refl _ _) rh rs t
/-! ### defs that raise -/
abbrev XD := Addr → HD → Prop
abbrev SpX := List D → HD → QD → XD → Prop
def CEX (K : PySem.W.Frag) (G : Addr → Prop) (S : HD) (H : Hp) (Xd : XD) : XK := fun cls d H' => ∃ C S', cls = .ref C ∧ d = none ∧ FL S H S' H' ∧ RH K G S' H' ∧ Xd C S'
structure FnX (P : Program) (w : World) (K : PySem.W.Frag) (mg : Str → Option Value) (base : Heap) (k : Nat) (f : Addr) (fd : FuncData) (ps : List Str) (sp : SpX) : Prop where
  len : ∀ ds S Q Y, sp ds S Q Y → ds.length = ps.length
  run : ∀ (A : Around) (outer : List Env) (s : Shared) (H : Hp) (args : Args) (us : List Value) (vs : List V) (ds : List D) (G : Addr → Prop) (S : HD) (Qd : QD) (Xd : XD), RoomG k A → Env0 P w K mg base A outer s H →
    BindsTo s fd args (ps.zip us) → Vals vs us → RDs K G S H ds vs → RH K G S H → sp ds S Qd Xd → codeAny (model P w) A (.call (.ref f) args) (CR (L2.CX P w) outer P w H s (CED K G S H Qd) (CEX K G S H Xd)) s
theorem FnX.mono {P : Program} {w : World} {K : PySem.W.Frag} {mg : Str → Option Value} {base : Heap} {j k : Nat} {f : Addr} {fd : FuncData} {ps : List Str} {sp : SpX} (F : FnX P w K mg base j f fd ps sp) (h : j ≤ k) : FnX P w K mg base k f fd ps sp :=
  ⟨F.len, fun A outer s H args us vs ds G S Qd Xd hr => F.run A outer s H args us vs ds G S Qd Xd (hr.mono h)⟩
structure HasX (P : Program) (w : World) (K : PySem.W.Frag) (mg : Str → Option Value) (base : Heap) (k : Nat) (x : Str) (ps : List Str) (sp : SpX) : Prop where
  ex : ∃ f fd, mg x = some (.ref f) ∧ PySem.W.keepIn K (.ref f) = true ∧ Binds K fd ps [] ∧ FnX P w K mg base k f fd ps sp
theorem HasX.mono {P : Program} {w : World} {K : PySem.W.Frag} {mg : Str → Option Value} {base : Heap} {j k : Nat} {x : Str} {ps : List Str} {sp : SpX} (h : HasX P w K mg base j x ps sp) (l : j ≤ k) : HasX P w K mg base k x ps sp :=
  let ⟨f, fd, a, b, c, d⟩ := h.ex; ⟨f, fd, a, b, c, d.mono l⟩
/-- an expression that may raise -/
abbrev TEX := SD → HD → QD → XD → Prop
def upX (X : Cx) (t : TEX) : TE := fun σ H Q => ∃ G σd S Qd Xd, RSl X.K G S H σd σ ∧ RH X.K G S H ∧ t σd S Qd Xd ∧ Post X.K G S H Qd Q ∧ ∀ C S' H', FL S H S' H' → RH X.K G S' H' → Xd C S' → WXof X (.ref C) none σ H'
abbrev DEX (X : Cx) (e : Expr) (t : TEX) : Prop := PE X e (upX X t)
def tCallX (sp : SpX) (ta : TAD) : TEX := fun σ S Q Y => ta σ S fun ds S1 => sp ds S1 Q Y
section
variable {X : Cx} {k : Nat} {f : Addr} {fd : FuncData} {ps : List Str} {sp : SpX} {x : Str} {p pos : Pos} {e : Expr} {es : List Expr} {ta : TAD}
theorem run_fnX {pins : List (Addr × Obj)} {σ : L2.St} {H : Hp} {s : Shared} {us : List Value} {vs : List V} {ds : List D} {G : Addr → Prop} {S : HD} {Qd : QD} {Xd : XD} {Q : VK}
    (F : FnX X.prog X.w X.K X.mg X.base k f fd ps sp) (hr : RoomG k X.A) (hb : Binds X.K fd ps []) (I : Inv X pins σ H s) (r : Vals vs us) (q : RDs X.K G S H ds vs) (rh : RH X.K G S H) (h : sp ds S Qd Xd) (p : Post X.K G S H Qd Q)
    (y : ∀ C S' H', FL S H S' H' → RH X.K G S' H' → Xd C S' → WXof X (.ref C) none σ H') :
    wpAny (model X.prog X.w) X.A (call (.ref f) us) (EP X pins σ Q) X.xe s := by
  have hl : us.length = ps.length := by
    have h1 := F.len _ _ _ _ h
    have h2 := q.length
    have h3 := r.length
    omega
  have hb' := hb s us I.kIn (by rw [List.append_nil]; exact hl)
  rw [List.append_nil] at hb'
  refine wpAny_call (codeAny_mono (F.run X.A X.stack s H ⟨us, []⟩ us vs ds G S Qd Xd hr I.env0 hb' r q rh h) fun z s' hq => ?_)
  cases z with
  | error e =>
    have hq : L2.CX X.prog X.w X.stack H s (CEX X.K G S H Xd) e s' := hq
    refine takes_wx X e s' (XE.of_call I (fun cls d H' hx => ?_) hq)
    obtain ⟨C, S', rfl, rfl, f1, rh1, q1⟩ := hx
    exact y C S' H' f1 rh1 q1
  | ok fl =>
    cases fl with
    | ret u =>
      have hq' : CE X.stack X.prog X.w H s Q u s' := by
        obtain ⟨v, H', h1, h2, h3, h4, h5, S', d, f', rh', rd', qd⟩ := hq
        exact ⟨v, H', h1, h2, h3, h4, h5, p S' d v H' f' rh' rd' qd⟩
      exact I.after hq'
    | next => exact False.elim hq
    | brk => exact False.elim hq
    | cont => exact False.elim hq
theorem de_callX (h : HasX X.prog X.w X.K X.mg X.base k x ps sp) (hr : RoomG k X.A) (ha : DA X (e :: es) ta) (hg : Gl X x := by rfl) (hdb : (x == ("__debug__" : Str)) = false := by decide)
    (he : starEach (e :: es) X.env = (false, eval e X.env) :: starEach es X.env := by rfl) (hpl : (backTo pos (starEach es X.env)).any (·.1) = false := by rfl) :
    DEX X (.Call (.Name x p) (e :: es) [] pos) (tCallX sp ta) := by
  obtain ⟨f, fd, hm, hk, hb, F⟩ := h.ex
  refine ⟨fun pins s σ H Q I ⟨G, σd, S, Qd, Xd, rs, rh, t, p, y⟩ => ?_⟩
  refine wpAny_Call_Name_kw (ld_glob I hg hm ?_ hdb)
  have hA := ha.run pos pins s σ H (fun vs H1 => ∃ S1 ds, FL S H S1 H1 ∧ RH X.K G S1 H1 ∧ RDs X.K G S1 H1 ds vs ∧ sp ds S1 Qd Xd) I ⟨G, σd, S, _, rs, rh, t, fun S1 ds vs H1 f1 rh1 q1 t1 => ⟨S1, ds, f1, rh1, q1, t1⟩⟩
  refine PySem.W.callWith_K (h₀ := X.base) I.ok.mod.kin hk ?_ he hpl
  refine thn hA fun us s1 hus => ?_
  obtain ⟨vs, H1, I1, r, S1, ds, f1, rh1, q1, t1⟩ := hus
  exact ⟨I1.kIn, run_fnX F hr hb I1 r q1 rh1 t1 (p.fl f1) fun C S' H' f2 rh2 q2 => y C S' H' (f1.trans f2) rh2 q2⟩
end
section
variable {X : Cx} {e : Expr} {te : TEX} {pos : Pos}
def sRetX (te : TEX) : TSD := fun D σ S => te σ S D.rt fun C S' => D.xr C σ S'
theorem ds_retX (he : DEX X e te) : DS X (.Return (some e) pos) (sRetX te) :=
  (ps_ret he).imp fun D σ H ⟨G, σd, S, Dd, rs, rh, t, p⟩ => ⟨G, σd, S, _, _, rs, rh, t, p.rt, fun C S' H' f1 rh1 q1 => p.xr C S' σd σ H' f1 rh1 (rs.fl f1) q1⟩
def sDropX (te : TEX) : TSD := fun D σ S => te σ S (fun _ S1 => D.nx σ S1) fun C S' => D.xr C σ S'
theorem ds_exprX (he : DEX X e te) (hs : swapsWith e none pos.line X.env = pure false := by rfl) : DS X (.Expr e pos) (sDropX te) :=
  (ps_expr he hs).imp fun D σ H ⟨G, σd, S, Dd, rs, rh, t, p⟩ => ⟨G, σd, S, _, _, rs, rh, t, fun S1 d v H1 f1 rh1 q1 t1 => p.nx S1 σd σ H1 f1 rh1 (rs.fl f1) t1, fun C S' H' f1 rh1 q1 => p.xr C S' σd σ H' f1 rh1 (rs.fl f1) q1⟩
end
/-! ### a def that raises, by its body -/
def finX (Y : XD) : XD := fun C S => ∃ S', Cv .non S .non S' ∧ Y C S'
theorem finX.le {Y : XD} {C : Addr} {S S' : HD} (l : HLe S S') (q : Y C S) : finX Y C S' := ⟨S, .le l, q⟩
section
variable {P : Program} {w : World} {K : PySem.W.Frag} {mg : Str → Option Value} {base : Heap}
theorem FnX.of {x qual : Str} {st : Stmt} {f : Addr} {fd : FuncData} {N ps : List Str} {k : Nat} {sp : SpX} (F : Fun K x qual st f fd) (Sc : FnScope N ps (defScope st)) (t : TSD) (len : ∀ ds S Q Y, sp ds S Q Y → ds.length = ps.length)
    (hd : ∀ (cdv : Value) (A : Around) (outer : List Env) (s : Shared) (H : Hp) (E : XK), RoomG k (A.deeper (envOfC qual (defScope st) s.heap.objs.size f cdv)) →
      DSs (cxOf (L2.CX P w) P w K mg base N qual (defScope st) f cdv A outer s H E) (defBody st) t)
    (hq : ∀ ds S Qd Xd, sp ds S Qd Xd → t { nx := fun _ S' => fin Qd .non S', rt := fin Qd, xr := fun C _ S' => finX Xd C S' } (pad N.length ds) S) : FnX P w K mg base (k + 1) f fd ps sp := by
  obtain ⟨oc, od, kV, doc, pm, an, cdv, ct, osl, rfl, lk, hcd⟩ := F.ex
  refine ⟨len, fun A outer s H args us vs ds G S Qd Xd hr e0 hb r rd rh hsp => ?_⟩
  have hl : vs.length = ps.length := rd.length.symm.trans (len _ _ _ _ hsp)
  have KX : K.In s.heap := e0.mod.kin.keeps fun b o e => (e0.bs b o e).1
  have lim : s.heap.NoLimit := e0.mod.nolimit.keeps fun b o e => (e0.bs b o e).1
  refine codeAny_call_function hr.rm.depth (KX _ _ lk) rfl Sc.co Sc.gen rfl (PySem.W.codeRec_of KX hcd) (hb _ _ _ _ ?_)
  have hkind : ∀ y ∈ ps.zip us, (defScope st).names.lookup y.1 = some .local ∨ ((defScope st).names.lookup y.1 = some .cell ∧ ((cellsFrom (s.heap.objs.size + 1) (defScope st).names []).lookup y.1).isSome = true) := by
    rintro ⟨n, v⟩ hy
    exact (Sc.par n (List.of_mem_zip hy).1).imp id fun q => ⟨q, PySem.W.cellsFrom_some _ _ _ (.inl q)⟩
  refine wpAny_newFunctionEnv_cells Sc.kind hkind fun env he s1 x1 => ?_
  subst he
  refine ⟨lim.keeps x1.toInCall.keep, codeAny_func ?_⟩
  have I := inv_start (CX := L2.CX P w) (E := CEX K G S H Xd) Sc hr.rm.hd e0 hl r x1
  have ht := hd cdv A outer s H (CEX K G S H Xd) (hr.deeper _)
  have hq0 := hq ds S Qd Xd hsp
  have start_ok : RSl K G S H (pad N.length ds) (L2.start N vs) := by
    refine ⟨?_, fun i d e => ?_⟩
    · rw [pad_len]
      unfold L2.start
      have hpl : ps.length ≤ N.length := by have := congrArg List.length Sc.pre; rw [List.length_take] at this; omega
      simp
      omega
    · obtain ⟨v, h1, h2⟩ := pad_slots rd e
      refine ⟨v, ?_, h2⟩
      unfold L2.start
      have hi : i < vs.length := (List.getElem?_eq_some_iff.mp h1).1
      rw [List.getElem?_append_left (by simpa using hi), List.getElem?_map, h1]
      rfl
  have tk := takes_of (X := cxOf (L2.CX P w) P w K mg base N qual (defScope st) f cdv A outer s H (CEX K G S H Xd)) rfl rfl rfl (E := CEX K G S H Xd) rfl
  refine wpAny_mono (ht.run [] s1 (L2.start N vs) H { nx := fun _ H' => CED K G S H Qd .non H', rt := CED K G S H Qd } I ⟨G, _, S, _, start_ok, rh, hq0, ?_, ?_, ?_, ?_, ?_⟩) (fun fl s' hs => ?_) fun e s' hs => hs
  · exact fun S' σd σ H' f' rh' rs' ⟨S2, d2, cv, q⟩ => let ⟨r2, f2, q2⟩ := cv K G H' .non rh' .non; ⟨S2, d2, f'.trans f2, r2, q2, q⟩
  · exact fun S' d v H' f' rh' rd' ⟨S2, d2, cv, q⟩ => let ⟨r2, f2, q2⟩ := cv K G H' v rh' rd'; ⟨S2, d2, f'.trans f2, r2, q2, q⟩
  · exact fun S' σd σ H' f' rh' rs' q => q.elim
  · exact fun S' σd σ H' f' rh' rs' q => q.elim
  · exact fun C S' σd σ H' f' rh' rs' ⟨S2, cv, q⟩ => wx_le tk (let ⟨r2, f2, _⟩ := cv K G H' .non rh' .non; ⟨C, S2, rfl, rfl, f'.trans f2, r2, q⟩)
  · cases fl with
    | ret u =>
      obtain ⟨v, σ', H', J, rv, q⟩ := hs
      exact ⟨v, H', J.os, J.bare, J.base, J.hok, rv, q⟩
    | next =>
      obtain ⟨σ', H', J, q⟩ := hs
      exact ⟨V.non, H', J.os, J.bare, J.base, J.hok, rfl, q⟩
    | brk => obtain ⟨_, _, _, q⟩ := hs; exact False.elim q
    | cont => obtain ⟨_, _, _, q⟩ := hs; exact False.elim q
theorem HasX.of {x : Str} {st : Stmt} {f : Addr} {fd : FuncData} {ps : List Str} {k : Nat} {sp : SpX} (F : Fun K x x st f fd) (hm : mg x = some (.ref f)) (hb : Binds K fd ps []) (h : FnX P w K mg base k f fd ps sp) : HasX P w K mg base k x ps sp :=
  ⟨⟨f, fd, hm, F.kp, hb, h⟩⟩
end
/-! ### try -/
def noX (D : EndsD) : EndsD := { nx := D.nx, rt := D.rt, bk := D.bk, ct := D.ct, xr := fun _ _ _ => False }
/-- the clauses, one after the other -/
def hdlD (m : Addr → Addr → Option Bool) (D : EndsD) : List (Addr × TSD) → Addr → SD → HD → Prop
  | [], C, σ, S => D.xr C σ S
  | (c, t) :: r, C, σ, S => match m C c with
    | some true => t (noX D) σ S
    | some false => hdlD m D r C σ S
    | none => False
def sTryD (m : Addr → Addr → Option Bool) (tb : TSD) (hs : List (Addr × TSD)) : TSD := fun D σ S => tb { nx := D.nx, rt := D.rt, bk := D.bk, ct := D.ct, xr := hdlD m D hs } σ S
def exm (K : PySem.W.Frag) (C c : Addr) : Option Bool := PySem.W.exmOne K (.ref C) (.ref c)
def upT' (K : PySem.W.Frag) (hs : List (Addr × TSD)) : List (Value × (Addr → Value → Option Addr → TS)) := hs.map fun q => (.ref q.1, fun _ _ _ => upS K (fun _ _ _ _ => False) q.2)
inductive HdsD (X : Cx) : List ExceptHandler → List (Addr × TSD) → Prop
  | nil : HdsD X [] []
  | cons {x : Str} {c : Addr} {t : TSD} {b₀ : Stmt} {suite : List Stmt} {np pos' : Pos} {hds : List ExceptHandler} {l : List (Addr × TSD)} (hc : L2.Names X x (.ref c)) (hsu : ∀ a pn, DSs (X.suite a pn) (b₀ :: suite) t) (r : HdsD X hds l) :
      HdsD X (.ExceptHandler (some (.Name x np)) none (b₀ :: suite) pos' :: hds) ((c, t) :: l)
theorem HdsD.ok {X : Cx} : ∀ {hds : List ExceptHandler} {l : List (Addr × TSD)}, HdsD X hds l → L2.HdsOk X hds (upT' X.K l)
  | _, _, .nil => .nil
  | _, _, .cons hc hsu r => .cons hc (fun a oe cls d pn _ _ => (hsu a ((a, oe) :: pn)).imp fun D σ H ⟨G, σd, S, Dd, rs, rh, t, p⟩ => ⟨G, σd, S, Dd, rs, rh, t, p.nx, p.rt, p.bk, p.ct, fun C S' σd σ H' f rh rs q => (p.xr C S' σd σ H' f rh rs q).elim⟩) r.ok
theorem ds_try {X : Cx} {body : List Stmt} {h₀ : ExceptHandler} {hds : List ExceptHandler} {l : List (Addr × TSD)} {pos : Pos} {tb : TSD} (hb : ∀ pn xe, PassesOwn (model X.prog X.w) X.A X.env xe → DSs (X.tr pn xe) body tb) (hh : HdsD X (h₀ :: hds) l)
    (hs : X.stack = X.env :: X.outer := by rfl) (hf : X.env.frame = some X.env.locals := by rfl) : DS X (.Try body (h₀ :: hds) [] [] pos) (sTryD (exm X.K) tb l) := by
  refine (ps_try_many (tb := fun W => upS X.K W tb) hs hf (takes_wx X) (fun W pn xe tk po => (hb pn xe po).imp fun D σ H ⟨G, σd, S, Dd, rs, rh, t, p⟩ => ⟨G, σd, S, Dd, rs, rh, t, p.nx, p.rt, p.bk, p.ct, fun C S' σd σ H' f rh rs q => wx_le tk (p.xr C S' σd σ H' f rh rs q)⟩) hh.ok).imp ?_
  rintro D σ H ⟨G, σd, S, Dd, rs, rh, t, p⟩
  refine ⟨G, σd, S, _, rs, rh, t, p.nx, p.rt, p.bk, p.ct, fun C S' σd' σ' H' f rh' rs' q => ?_⟩
  clear t hh hb
  have q : hdlD (exm X.K) Dd l C σd' S' := q
  induction l with
  | nil => exact p.xr C S' σd' σ' H' f rh' rs' q
  | cons z l ih =>
    obtain ⟨c, t⟩ := z
    unfold hdlD at q
    cases e : exm X.K C c with
    | none => rw [e] at q; exact q.elim
    | some b =>
      rw [e] at q
      cases b with
      | true => exact ⟨true, e, fun _ a _ => ⟨G, σd', S', _, rs', rh', q, (p.fl f).nx, (p.fl f).rt, (p.fl f).bk, (p.fl f).ct, fun C S' σd σ H' f rh rs q => q.elim⟩, (fun h => nomatch h)⟩
      | false => exact ⟨false, e, (fun h => nomatch h), fun _ => ih q q⟩
end PD
end

section
/-! PD36: s.ljust(n, c); methods of a written class; making one. -/
namespace PD
open PySem PySem.Spec PyProof.Rows L2
/-- the statement at a place of a class -/
def meth (s : Stmt) (j : Nat) : Stmt := match s with
  | .ClassDef _ _ _ body .. => body.getD j (.Pass ⟨0, 0, 0, 0⟩)
  | _ => .Pass ⟨0, 0, 0, 0⟩
/-- C(..), with room for it -/
structure HasK (P : Program) (w : World) (K : PySem.W.Frag) (mg : Str → Option Value) (base : Heap) (k : Nat) (x : Str) (C : Addr) (ps : List Str) (sp : SpD) : Prop where
  ex : ∃ j, j + 1 ≤ k ∧ HasC P w K mg base j x C ps sp
theorem HasK.mono {P : Program} {w : World} {K : PySem.W.Frag} {mg : Str → Option Value} {base : Heap} {j k : Nat} {x : Str} {C : Addr} {ps : List Str} {sp : SpD} (h : HasK P w K mg base j x C ps sp) (l : j ≤ k) : HasK P w K mg base k x C ps sp :=
  let ⟨i, a, b⟩ := h.ex; ⟨i, Nat.le_trans a l, b⟩
section
variable {X : Cx} {o e : Expr} {es : List Expr} {to : TED} {ta : TAD} {x : Str} {C : Addr} {k : Nat} {ps : List Str} {sp : SpD} {pos apos p : Pos}
theorem de_mk (h : HasK X.prog X.w X.K X.mg X.base k x C ps sp) (hr : RoomG k X.A) (ha : DA X (e :: es) ta) (hg : Gl X x := by rfl) (hdb : (x == ("__debug__" : Str)) = false := by decide)
    (he : starEach (e :: es) X.env = (false, eval e X.env) :: starEach es X.env := by rfl) (hpl : (backTo pos (starEach es X.env)).any (·.1) = false := by rfl) :
    DE X (.Call (.Name x p) (e :: es) [] pos) (tMakeD C sp ta) :=
  let ⟨_, l, c⟩ := h.ex; de_make c (hr.mono l) ha hg hdb he hpl
def rLjD (x : D) (ds : List D) (S : HD) (Q : QD) : Prop := match x, ds with
  | .str a, [.int i, .str f] => f.length = 1 ∧ PadOk i = true ∧ Q (.str (Txt.ljustF a i (f.cps.getD 0 0))) S
  | _, _ => False
def tMethB (r : D → List D → HD → QD → Prop) (to : TED) (ta : TAD) : TED := fun σ S Q => to σ S fun x S1 => (∃ z, x = .str z) ∧ ta σ S1 fun ds S2 => r x ds S2 Q
theorem mt_ljust3 : MtR X "str.ljust" (fun x xs H Q => ∃ (a : Str) (i : Int) (f : Str), x = .str a ∧ xs = [.int i, .str f] ∧ f.length = 1 ∧ PadOk i = true ∧ Q (.str (Txt.ljustF a i (f.cps.getD 0 0))) H) := by
  intro pins s σ H x xs v us Q I rx rs ⟨a, i, f, e1, e2, hf, hp, q⟩
  subst e1 e2
  obtain ⟨t, rfl⟩ := rx
  cases rs with
  | cons r1 rs =>
    cases rs with
    | cons r2 rs =>
      cases rs
      obtain ⟨u, rfl⟩ := r1
      obtain ⟨z, rfl⟩ := r2
      exact PyProof.Rows.ljust_fill hp hf fun t' k => ⟨V.str (Txt.ljustF a i (f.cps.getD 0 0)), H, I.tok k, ⟨t', rfl⟩, q⟩
theorem de_ljust (ho : DE X o to) (ha : DA X (e :: es) ta) (hbase : attributeBase o "ljust" X.env (eval o X.env) = eval o X.env := by rfl)
    (hfew : ((backTo pos (starEach (e :: es) X.env)).all (fun x => !x.1) && (backToKw pos (keywordEach [] X.env)).all (fun x => x.1.isSome)
      && decide ((e :: es).length + ([] : List Keyword).length + (if ([] : List Keyword).isEmpty then 0 else 1) < 30)) = true := by rfl)
    (hline : (apos.endLine == pos.line) = true := by rfl) (hs : starEach (e :: es) X.env = (false, eval e X.env) :: starEach es X.env := by rfl) (hplain : (backTo pos (starEach es X.env)).any (·.1) = false := by rfl) :
    DE X (.Call (.Attribute o "ljust" apos) (e :: es) [] pos) (tMethB rLjD to ta) :=
  (pe_bm F.plainAttrs_str PySem.F.slot_str_ljust PySem.F.type_str_ljust mt_ljust3 ho ha hbase hfew hline hs hplain).imp fun σ H Q ⟨G, σd, S, Qd, rs, rh, t, p⟩ => ⟨G, σd, S, _, rs, rh, t, fun S1 d v H1 f1 rh1 q1 ⟨⟨z, ez⟩, t1⟩ => by
    subst ez
    cases q1
    refine ⟨rfl, G, σd, S1, _, rs.fl f1, rh1, t1, fun S2 ds vs H2 f2 rh2 q2 t2 => ?_⟩
    unfold rLjD at t2
    split at t2
    · rename_i a i f e1
      cases e1
      cases q2 with
      | cons r1 q2 =>
        cases q2 with
        | cons r2 q2 =>
          cases q2; cases r1; cases r2
          exact ⟨z, i, f, rfl, rfl, t2.1, t2.2.1, p S2 _ _ H2 (f1.trans f2) rh2 (.str _) t2.2.2⟩
    · exact t2.elim⟩
end
end PD
end

section
/-! PD40: functions made of lambdas: hidden while they run. -/
namespace PD
open PySem PySem.Spec PyProof.Rows L2

/-! ### what is tracked of functions, forgotten and told again -/
def HD.noclo (S : HD) : HD := { S with hp := fun a => match S.hp a with
  | some (.clo _ _ _) => none
  | o => o }
def HD.reclo (S' S : HD) : HD := { S' with hp := fun a => match S.hp a with
  | some (.clo L cl cs) => some (.clo L cl cs)
  | _ => match S'.hp a with
    | some (.clo _ _ _) => none
    | o => o }
theorem HD.ext' {S S' : HD} (h : S.hp = S'.hp) (c : S.c = S'.c) (d : S.dk = S'.dk) : S = S' := by
  cases S; cases S'; simp only at h c d; subst h; subst c; subst d; rfl
theorem noclo_none {S : HD} {a : Addr} (h : S.hp a = none) : S.noclo.hp a = none := by simp [HD.noclo, h]
theorem noclo_some {S : HD} {a : Addr} {o : OD} (h : S.noclo.hp a = some o) : S.hp a = some o ∧ o.isClo = false := by
  unfold HD.noclo at h
  simp only at h
  split at h
  · cases h
  · rename_i n
    refine ⟨h, ?_⟩
    cases o with
    | clo L cl cs => exact (n L cl cs h).elim
    | _ => rfl
theorem noclo_keep {S : HD} {a : Addr} {o : OD} (h : S.hp a = some o) (n : o.isClo = false) : S.noclo.hp a = some o := by
  unfold HD.noclo
  simp only [h]
  cases o with
  | clo L cl cs => cases n
  | _ => rfl
theorem noclo_clo {S : HD} {a : Addr} {L : LamI} {cl : List (Str × Addr)} {cs : List (Str × D)} (h : S.hp a = some (.clo L cl cs)) : S.noclo.hp a = none := by simp [HD.noclo, h]
theorem noclo_le (S : HD) : HLe S.noclo S := ⟨fun a o e => (noclo_some e).1, Nat.le_refl _, rfl⟩
theorem reclo_clo {S S' : HD} {a : Addr} {L : LamI} {cl : List (Str × Addr)} {cs : List (Str × D)} (h : S.hp a = some (.clo L cl cs)) : (S'.reclo S).hp a = some (.clo L cl cs) := by simp [HD.reclo, h]
theorem reclo_eq {S S' : HD} {a : Addr} (n : ∀ L cl cs, S.hp a ≠ some (.clo L cl cs)) : (S'.reclo S).hp a = S'.noclo.hp a := by
  unfold HD.reclo HD.noclo
  dsimp only
  cases e : S.hp a with
  | none => rfl
  | some o =>
    cases o with
    | clo L cl cs => exact (n L cl cs e).elim
    | _ => rfl
theorem reclo_none {S S' : HD} {a : Addr} (n : ∀ L cl cs, S.hp a ≠ some (.clo L cl cs)) (h : S'.hp a = none) : (S'.reclo S).hp a = none := (reclo_eq n).trans (noclo_none h)
theorem clo_or (S : HD) (a : Addr) : (∃ L cl cs, S.hp a = some (.clo L cl cs)) ∨ ∀ L cl cs, S.hp a ≠ some (.clo L cl cs) := by
  by_cases h : ∃ L cl cs, S.hp a = some (.clo L cl cs)
  · exact .inl h
  · exact .inr fun L cl cs e => h ⟨L, cl, cs, e⟩
theorem reclo_some {S S' : HD} {a : Addr} {o : OD} (h : (S'.reclo S).hp a = some o) : (∃ L cl cs, o = .clo L cl cs ∧ S.hp a = some o) ∨ ((∀ L cl cs, S.hp a ≠ some (.clo L cl cs)) ∧ S'.hp a = some o ∧ o.isClo = false) := by
  rcases clo_or S a with ⟨L, cl, cs, e⟩ | n
  · rw [reclo_clo e] at h
    cases h
    exact .inl ⟨L, cl, cs, rfl, e⟩
  · rw [reclo_eq n] at h
    obtain ⟨h1, h2⟩ := noclo_some h
    exact .inr ⟨n, h1, h2⟩
@[simp] theorem noclo_c {S : HD} : S.noclo.c = S.c := rfl
@[simp] theorem noclo_dk {S : HD} : S.noclo.dk = S.dk := rfl
@[simp] theorem reclo_c {S S' : HD} : (S'.reclo S).c = S'.c := rfl
@[simp] theorem reclo_dk {S S' : HD} : (S'.reclo S).dk = S'.dk := rfl
@[simp] theorem noclo_reclo (S : HD) : S.noclo.reclo S = S := by
  refine HD.ext' (funext fun a => ?_) rfl rfl
  unfold HD.reclo HD.noclo
  simp only
  cases h : S.hp a with
  | none => rfl
  | some o => cases o <;> rfl
@[simp] theorem noclo_tick {S : HD} {n : Nat} : (S.tick n).noclo = S.noclo.tick n := rfl
theorem reclo_tick {S S' : HD} {n : Nat} : (S'.tick n).reclo S = (S'.reclo S).tick n := rfl

/-! ### the general way from a state to another one -/
section
variable {K : PySem.W.Frag} {G : Addr → Prop} {S S' : HD} {H H' : Hp}
theorem RH.trans0 (r : RH K G S H) (m : Mv0 G S H G S' H') (d : S'.dk = S.dk) (c : S.c ≤ S'.c)
    (hp : ∀ a o, S'.hp a = some o → (o.isClo = false ∧ S.hp a = some o ∧ H' a = H a) ∨ (¬ Dk S a ∧ ¬ G a ∧ ROD K G S' H' a o))
    (rs : ∀ a o, G a → H a = some o → ∃ u, H' a = some u)
    (dk : ∀ a b, S.dk = some (a, b) → H' a = H a ∧ H' b = H b ∧ S'.hp a = none ∧ S'.hp b = none) : RH K G S' H' where
  hp := fun a o e => by
    have dkE : Dk S' a ↔ Dk S a := by unfold Dk; rw [d]
    rcases hp a o e with ⟨n, e1, e2⟩ | ⟨h1, h2, h3⟩
    · obtain ⟨h1, h2, h3⟩ := r.hp a o e1
      exact ⟨fun z => h1 (dkE.mp z), h2, h3.mv0 m n e2⟩
    · exact ⟨fun z => h1 (dkE.mp z), h2, h3⟩
  rs := fun a g => by
    obtain ⟨⟨o, e⟩, n⟩ := r.rs a g
    exact ⟨rs a o g e, fun z => n (by unfold Dk at z ⊢; rwa [d] at z)⟩
  dk := fun a b e => by
    rw [d] at e
    obtain ⟨h1, h2, h3, cs, n, h4, h5, h6, h7⟩ := r.dk a b e
    obtain ⟨e1, e2, e3, e4⟩ := dk a b e
    exact ⟨h1, e3, e4, cs, n, e1.trans h4, e2.trans h5, Nat.le_trans h6 c, h7⟩

/-! ### the cells of a function are hidden while it runs -/
def InC (cl : List (Str × Addr)) (b : Addr) : Prop := ∃ y, cl.lookup y = some b
open Classical in
noncomputable def hidC (H : Hp) (cl : List (Str × Addr)) : Hp := fun b => if InC cl b then none else H b
open Classical in
noncomputable def reC (H' H : Hp) (cl : List (Str × Addr)) : Hp := fun b => if InC cl b then H b else H' b
variable {cl : List (Str × Addr)} {b : Addr}
theorem hidC_in (h : InC cl b) : hidC H cl b = none := if_pos h
theorem hidC_out (h : ¬ InC cl b) : hidC H cl b = H b := if_neg h
theorem reC_in (h : InC cl b) : reC H' H cl b = H b := if_pos h
theorem reC_out (h : ¬ InC cl b) : reC H' H cl b = H' b := if_neg h
theorem hidC_none (h : H b = none) : hidC H cl b = none := by
  by_cases q : InC cl b
  · exact hidC_in q
  · exact (hidC_out q).trans h
variable {a : Addr} {L : LamI} {cs : List (Str × D)}
theorem CloAt.inC (t : CloAt K G S H a L cl cs) (h : InC cl b) : ∃ o u, H b = some (KnO b o) ∧ Fz G S b ∧ o.data = .cell (some u) := by
  obtain ⟨y, hy⟩ := h
  obtain ⟨d, hd⟩ := t.cell y b hy
  obtain ⟨c, o, u, v, h1, z, h2, h3, _⟩ := t.cap y d hd
  rw [hy] at h1; cases h1
  exact ⟨o, u, h2, z, h3⟩
theorem CloAt.out (t : CloAt K G S H a L cl cs) {o : HO} (e : H b = some o) (n : ¬ Kn o) : ¬ InC cl b := fun q => by
  obtain ⟨o', u, e', _⟩ := t.inC q
  rw [e] at e'; cases e'
  exact n True.intro
theorem CloAt.outS (t : CloAt K G S H a L cl cs) {o : OD} (e : S.hp b = some o) : ¬ InC cl b := fun q => by
  obtain ⟨o', u, _, z, _⟩ := t.inC q
  have z1 := z.1
  rw [e] at z1; cases z1
theorem CloAt.mvIn (t : CloAt K G S H a L cl cs) : Mv0 G S H G S.noclo (hidC H cl) :=
  ⟨fun b o e n z => ⟨⟨noclo_none z.1, z.2.1, z.2.2⟩, (hidC_out (t.out e n)).trans e⟩, fun _ e => e⟩
theorem RH.hid (r : RH K G S H) (t : CloAt K G S H a L cl cs) : RH K G S.noclo (hidC H cl) := by
  refine r.trans0 t.mvIn rfl (Nat.le_refl _) (fun b o e => ?_) (fun b o g e => ?_) (fun x y e => ?_)
  · obtain ⟨h1, h2⟩ := noclo_some e
    exact .inl ⟨h2, h1, hidC_out (t.outS h1)⟩
  · refine ⟨o, (hidC_out fun q => ?_).trans e⟩
    obtain ⟨_, _, _, z, _⟩ := t.inC q
    exact z.2.2 g
  · obtain ⟨_, h2, h3, _⟩ := r.dk x y e
    refine ⟨hidC_out fun q => ?_, hidC_out fun q => ?_, noclo_none h2, noclo_none h3⟩
    · obtain ⟨_, _, _, z, _⟩ := t.inC q
      exact z.2.1 ⟨_, e, .inl rfl⟩
    · obtain ⟨_, _, _, z, _⟩ := t.inC q
      exact z.2.1 ⟨_, e, .inr rfl⟩
section
variable (r : RH K G S H) (t : CloAt K G S H a L cl cs) (f : FL S.noclo (hidC H cl) S' H') (r' : RH K G S' H') (nC : ∀ b, InC cl b → H' b = none)
include r t f r' nC
theorem re_none {c : Addr} {o : HO} (e : H c = some o) (n : S.hp c = none) (d : ¬ Dk S c) : (S'.reclo S).hp c = none ∧ ¬ Dk (S'.reclo S) c ∧ reC H' H cl c = some o := by
  have nS : ∀ L cl cs, S.hp c ≠ some (.clo L cl cs) := fun _ _ _ q => by rw [n] at q; cases q
  by_cases q : InC cl c
  · have hn := nC c q
    have sn : S'.hp c = none := by
      cases z : S'.hp c with
      | none => rfl
      | some o =>
        obtain ⟨u, hu⟩ := (r'.hp c o z).2.2.there
        rw [hn] at hu; cases hu
    refine ⟨reclo_none nS sn, fun z => ?_, (reC_in q).trans e⟩
    obtain ⟨p, hp, hz⟩ := z
    obtain ⟨_, _, _, _, _, e1, e2, _⟩ := r'.dk p.1 p.2 hp
    rcases hz with hz | hz <;> rw [hz] at hn
    · rw [hn] at e1; cases e1
    · rw [hn] at e2; cases e2
  · obtain ⟨h1, h2, h3⟩ := f.kp c o ((hidC_out q).trans e) (noclo_none n) d
    exact ⟨reclo_none nS h1, h2, (reC_out q).trans h3⟩
theorem re_fl : FL S H (S'.reclo S) (reC H' H cl) := ⟨fun c o e n d => re_none r t f r' nC e n d, fun p h => f.dk p h⟩
theorem re_clo {c : Addr} {L2 : LamI} {cl2 : List (Str × Addr)} {cs2 : List (Str × D)} (e : S.hp c = some (.clo L2 cl2 cs2)) : reC H' H cl c = H c ∧ H' c = H c ∧ ∃ o, H c = some (KnO c o) := by
  obtain ⟨d, _, q⟩ := r.hp c _ e
  obtain ⟨c', pm, ctv, h1, _⟩ := CloAt.fn q
  have o1 := t.outS e
  have h2 := (f.kp c _ ((hidC_out o1).trans h1) (noclo_clo e) d).2.2
  exact ⟨(reC_out o1).trans (h2.trans h1.symm), h2.trans h1.symm, _, h1⟩
theorem re_mv0 : Mv0 G S' H' G (S'.reclo S) (reC H' H cl) := by
  refine ⟨fun c o e n z => ?_, fun _ e => e⟩
  have o1 : ¬ InC cl c := fun q => by rw [nC c q] at e; cases e
  refine ⟨⟨?_, z.2.1, z.2.2⟩, (reC_out o1).trans e⟩
  refine reclo_none (fun L2 cl2 cs2 q => ?_) z.1
  obtain ⟨_, h2, o', h3⟩ := re_clo r t f r' nC q
  rw [e, h3] at h2; cases h2
  exact n True.intro
theorem re_rh : RH K G (S'.reclo S) (reC H' H cl) := by
  have fl := re_fl r t f r' nC
  refine r'.trans0 (re_mv0 r t f r' nC) rfl (Nat.le_refl _) (fun c o e => ?_) (fun c o g e => ?_) (fun x y e => ?_)
  · rcases reclo_some e with ⟨L2, cl2, cs2, rfl, h⟩ | ⟨_, h, n⟩
    · obtain ⟨d, g, q⟩ := r.hp c _ h
      obtain ⟨e1, e2, o', e3⟩ := re_clo r t f r' nC h
      refine .inr ⟨fun z => ?_, g, ?_⟩
      · obtain ⟨p, hp, hz⟩ := z
        obtain ⟨_, _, _, _, _, d1, d2, _⟩ := r'.dk p.1 p.2 hp
        rw [e3] at e2
        rcases hz with hz | hz <;> rw [hz] at e2
        · rw [e2] at d1; cases d1
        · rw [e2] at d2; cases d2
      · have q : CloAt K G S H c L2 cl2 cs2 := q
        refine ⟨?_, fun y d hd => ?_, q.cell, q.inj, q.free⟩
        · obtain ⟨c', pm, ctv, h1, z, h2⟩ := q.fn
          obtain ⟨k1, k2, k3⟩ := re_none r t f r' nC h2 z.1 z.2.1
          exact ⟨c', pm, ctv, e1.trans h1, ⟨k1, k2, z.2.2⟩, k3⟩
        · obtain ⟨c0, o, u, v, h1, z, h2, h3, h4, h5⟩ := q.cap y d hd
          obtain ⟨k1, k2, k3⟩ := re_none r t f r' nC h2 z.1 z.2.1
          exact ⟨c0, o, u, v, h1, ⟨k1, k2, z.2.2⟩, k3, h3, h4, h5.fl fl⟩
    · obtain ⟨u, hu⟩ := (r'.hp c o h).2.2.there
      exact .inl ⟨n, h, reC_out fun q => by rw [nC c q] at hu; cases hu⟩
  · exact ⟨o, (reC_out fun q => by rw [nC c q] at e; cases e).trans e⟩
  · obtain ⟨_, h2, h3, _, _, d1, d2, _⟩ := r'.dk x y e
    have c1 : ∀ {z : Addr} {o : HO}, H' z = some o → ¬ Kn o → S'.hp z = none → reC H' H cl z = H' z ∧ (S'.reclo S).hp z = none := fun {z o} hz n hn =>
      ⟨reC_out (fun q => by rw [nC z q] at hz; cases hz), reclo_none (fun L2 cl2 cs2 q => by
        obtain ⟨_, e2, o', e3⟩ := re_clo r t f r' nC q
        rw [hz, e3] at e2; cases e2
        exact n True.intro) hn⟩
    exact ⟨(c1 d1 id h2).1, (c1 d2 id h3).1, (c1 d1 id h2).2, (c1 d2 id h3).2⟩
end
end
end PD
end

section
/-! PD41: values that are called; a lambda by its body. -/
namespace PD
open PySem PySem.Spec PyProof.Rows L2

/-- the value at g can be called -/
def Calls' (P : Program) (w : World) (g : Addr) (h : Heap) : Prop := ∃ k, (k = Keeper.frame ∨ k = Keeper.machine ∨ k = Keeper.boundFrame) ∧ PySem.W.Looks (model P w) h (keeperOf (.ref g)) k
/-- what calls of values do -/
structure HasV (P : Program) (w : World) (K : PySem.W.Frag) (mg : Str → Option Value) (base : Heap) (k : Nat) (fv : Addr → SpD) : Prop where
  at_ : ∀ (g : Addr) (ds : List D) (S : HD) (Q : QD) (G : Addr → Prop) (H : Hp) (s : Shared), fv g ds S Q → RH K G S H → HOk P w H s.heap → K.In s.heap → Calls' P w g s.heap
  run : ∀ (g : Addr) (A : Around) (outer : List Env) (s : Shared) (H : Hp) (us : List Value) (vs : List V) (ds : List D) (G : Addr → Prop) (S : HD) (Qd : QD), RoomG k A → Env0 P w K mg base A outer s H →
    Vals vs us → RDs K G S H ds vs → RH K G S H → fv g ds S Qd → codeAny (model P w) A (.call (.ref g) ⟨us, []⟩) (CR CX0 outer P w H s (CED K G S H Qd) E0) s
theorem HasV.mono {P : Program} {w : World} {K : PySem.W.Frag} {mg : Str → Option Value} {base : Heap} {j k : Nat} {fv : Addr → SpD} (h : HasV P w K mg base j fv) (l : j ≤ k) : HasV P w K mg base k fv :=
  ⟨h.at_, fun g A outer s H us vs ds G S Qd hr => h.run g A outer s H us vs ds G S Qd (hr.mono l)⟩
theorem HasV.or {P : Program} {w : World} {K : PySem.W.Frag} {mg : Str → Option Value} {base : Heap} {k : Nat} {fv fv' : Addr → SpD} (h : HasV P w K mg base k fv) (h' : HasV P w K mg base k fv') : HasV P w K mg base k (fun g ds S Q => fv g ds S Q ∨ fv' g ds S Q) :=
  ⟨fun g ds S Q G H s q => q.elim (h.at_ g ds S Q G H s) (h'.at_ g ds S Q G H s), fun g A outer s H us vs ds G S Qd hr e v r rh q => q.elim (h.run g A outer s H us vs ds G S Qd hr e v r rh) (h'.run g A outer s H us vs ds G S Qd hr e v r rh)⟩
theorem HasV.imp {P : Program} {w : World} {K : PySem.W.Frag} {mg : Str → Option Value} {base : Heap} {k : Nat} {fv fv' : Addr → SpD} (h : HasV P w K mg base k fv) (i : ∀ g ds S Q, fv' g ds S Q → fv g ds S Q) : HasV P w K mg base k fv' :=
  ⟨fun g ds S Q G H s q => h.at_ g ds S Q G H s (i _ _ _ _ q), fun g A outer s H us vs ds G S Qd hr e v r rh q => h.run g A outer s H us vs ds G S Qd hr e v r rh (i _ _ _ _ q)⟩
theorem HasV.never {P : Program} {w : World} {K : PySem.W.Frag} {mg : Str → Option Value} {base : Heap} {k : Nat} : HasV P w K mg base k (fun _ _ _ _ => False) :=
  ⟨fun _ _ _ _ _ _ _ q => q.elim, fun _ _ _ _ _ _ _ _ _ _ _ _ _ _ _ _ q => q.elim⟩
/-- a def of the module as a value -/
theorem HasV.ofHas {P : Program} {w : World} {K : PySem.W.Frag} {mg : Str → Option Value} {base : Heap} {k : Nat} {x : Str} {F : Addr} {ps : List Str} {sp : SpD} (h : Has P w K mg base k x ps sp) (hx : mg x = some (.ref F)) : HasV P w K mg base k (fun g ds S Q => g = F ∧ sp ds S Q) := by
  obtain ⟨f, fd, hm, hk, hb, FD⟩ := h.ex
  rw [hx] at hm
  cases hm
  refine ⟨fun g ds S Q G H s q rh hok kin => ?_, fun g A outer s H us vs ds G S Qd hr e v r rh q => ?_⟩
  · obtain ⟨rfl, _⟩ := q
    exact PySem.W.keeps_K hk _ kin
  · obtain ⟨rfl, q⟩ := q
    have hl : us.length = ps.length := by
      have h1 := FD.len _ _ _ q
      have h2 := r.length
      have h3 := v.length
      omega
    have kin : K.In s.heap := e.mod.kin.keeps fun b o q => (e.bs b o q).1
    have hb' := hb s us kin (by rw [List.append_nil]; exact hl)
    rw [List.append_nil] at hb'
    exact FD.run A outer s H ⟨us, []⟩ us vs ds G S Qd hr e hb' v r rh q

/-- x(..), x a local name that holds a function -/
def tCallV (i : Nat) (fv : Addr → SpD) (ta : TAD) : TED := fun σ S Q => match gt σ i with
  | some (.ref g) => ta σ S fun ds S1 => fv g ds S1 Q
  | _ => False
/-- e(..), e any expression that is neither a name of a def nor a method -/
def tCallE (tf : TED) (fv : Addr → SpD) (ta : TAD) : TED := fun σ S Q => tf σ S fun d S1 => match d with
  | .ref g => ta σ S1 fun ds S2 => fv g ds S2 Q
  | _ => False
section
variable {X : Cx} {k : Nat} {fv : Addr → SpD} {x : Str} {p pos : Pos} {f e : Expr} {es : List Expr} {tf : TED} {ta : TAD}
theorem de_callE (h : HasV X.prog X.w X.K X.mg X.base k fv) (hr : RoomG k X.A) (hf : DE X f tf) (ha : DA X (e :: es) ta)
    (he : starEach (e :: es) X.env = (false, eval e X.env) :: starEach es X.env := by rfl) (hpl : (backTo pos (starEach es X.env)).any (·.1) = false := by rfl)
    (hev : eval (.Call f (e :: es) [] pos) X.env = (do callWith pos (← eval f X.env) [] (backTo pos (starEach (e :: es) X.env)) (backToKw pos (keywordEach [] X.env))) := by rfl) :
    DE X (.Call f (e :: es) [] pos) (tCallE tf fv ta) := by
  refine ⟨fun pins s σ H Q I ⟨G, σd, S, Qd, rs, rh, t, pq⟩ => ?_⟩
  rw [hev]
  have hF := hf.run pins s σ H (fun v H1 => ∃ S1 d, FL S H S1 H1 ∧ RH X.K G S1 H1 ∧ RD X.K G S1 H1 d v ∧ (match d with | .ref g => ta σd S1 fun ds S2 => fv g ds S2 Qd | _ => False)) I ⟨G, σd, S, _, rs, rh, t, fun S1 d v H1 f1 rh1 q1 t1 => ⟨S1, d, f1, rh1, q1, t1⟩⟩
  refine wpAny_bind (thn hF fun u s1 ⟨v, H1, I1, r1, S1, d, f1, rh1, q1, t1⟩ => ?_)
  split at t1
  · rename_i g
    cases q1
    obtain rfl : u = Value.ref g := r1
    have hA := ha.run pos pins s1 σ H1 (fun vs H2 => ∃ S2 ds, FL S1 H1 S2 H2 ∧ RH X.K G S2 H2 ∧ RDs X.K G S2 H2 ds vs ∧ fv g ds S2 Qd) I1 ⟨G, σd, S1, _, rs.fl f1, rh1, t1, fun S2 ds vs H2 f2 rh2 q2 t2 => ⟨S2, ds, f2, rh2, q2, t2⟩⟩
    rw [he]
    refine PySem.W.callWith_of (P := Calls' X.prog X.w g) ?_ (fun h z => z) (PySem.Calls.evalArgs_plain ?_)
    · show ((false || (backTo pos (starEach es X.env)).any (·.1)) || false) = false
      rw [hpl]; rfl
    rw [he] at hA
    refine thn hA fun us s2 hus => ?_
    obtain ⟨vs, H2, I2, r, S2, ds, f2, rh2, q2, t2⟩ := hus
    refine ⟨h.at_ g ds S2 Qd G H2 s2 t2 rh2 I2.hok I2.kIn, ?_⟩
    refine wpAny_call (codeAny_mono (h.run g X.A X.stack s2 H2 us vs ds G S2 Qd hr I2.env0 r q2 rh2 t2) fun z s' hq => ?_)
    cases z with
    | error e => exact False.elim hq
    | ok fl =>
      cases fl with
      | ret u =>
        have hq' : CE X.stack X.prog X.w H2 s2 Q u s' := by
          obtain ⟨v, H', h1, h2, h3, h4, h5, S', d, f', rh', rd', qd⟩ := hq
          exact ⟨v, H', h1, h2, h3, h4, h5, (pq.fl (f1.trans f2)) S' d v H' f' rh' rd' qd⟩
        exact I2.after hq'
      | next => exact False.elim hq
      | brk => exact False.elim hq
      | cont => exact False.elim hq
  · exact t1.elim
theorem de_callV (i : Nat) (h : HasV X.prog X.w X.K X.mg X.base k fv) (hr : RoomG k X.A) (hx : PE X (.Name x p) (tVar i)) (ha : DA X (e :: es) ta)
    (he : starEach (e :: es) X.env = (false, eval e X.env) :: starEach es X.env := by rfl) (hpl : (backTo pos (starEach es X.env)).any (·.1) = false := by rfl) :
    DE X (.Call (.Name x p) (e :: es) [] pos) (tCallE (tSlot i) fv ta) := de_callE h hr (de_slot i hx) ha he hpl rfl
/-- a def of the module as a value -/
theorem de_fn {F : Addr} (hm : X.mg x = some (.ref F)) (hg : Gl X x := by rfl) (hd : (x == ("__debug__" : Str)) = false := by decide) : DE X (.Name x pos) (tCD (.ref F)) :=
  de_c (pe_glob (v := .ref F) hg hm rfl hd) fun _ _ _ => .ref _
end

/-! ### where a lambda stands in the text -/
def eSub : Expr → List Expr
  | .Call f args _ _ => f :: args
  | .Tuple es _ _ => es
  | .List es _ => es
  | .BinOp a _ b _ => [a, b]
  | .UnaryOp _ a _ => [a]
  | .BoolOp _ es _ => es
  | .IfExp a b c _ => [a, b, c]
  | .Compare a _ es _ => a :: es
  | .Subscript a b _ => [a, b]
  | .Attribute a _ _ => [a]
  | _ => []
def sExp : Stmt → List Expr
  | .Return (some v) _ => [v]
  | .Assign _ v _ => [v]
  | .Expr v _ => [v]
  | .If c _ _ _ => [c]
  | .While c _ _ _ => [c]
  | .For _ it _ _ _ => [it]
  | _ => []
def sSub : Stmt → List Stmt
  | .If _ a b _ => a ++ b
  | .While _ a b _ => a ++ b
  | .For _ _ a b _ => a ++ b
  | _ => []
def sNav : List Stmt → List Nat → Stmt
  | ss, [] => .Pass ⟨0, 0, 0, 0⟩
  | ss, [i] => ss.getD i (.Pass ⟨0, 0, 0, 0⟩)
  | ss, i :: r => sNav (sSub (ss.getD i (.Pass ⟨0, 0, 0, 0⟩))) r
def eNav : List Expr → List Nat → Option Expr
  | es, [] => none
  | es, [i] => es[i]?
  | es, i :: r => match es[i]? with
    | some e => eNav (eSub e) r
    | none => none
def lamOf (q : Str) (ss : List Stmt) (p r : List Nat) : LamI := match eNav (sExp (sNav ss p)) r with
  | some (.Lambda a b sc _) => ⟨q, a, b, sc⟩
  | _ => ⟨q, ⟨[], [], none, [], [], none, []⟩, .Constant .none 0 ⟨0, 0, 0, 0⟩, { kind := .function, names := [], isGenerator := false, isCoroutine := false }⟩

/-! ### a lambda by its body -/
/-- parameters first, then the captured names -/
structure LScope (N ps : List Str) (scope : Scope) : Prop where
  nd : N.Nodup
  pre : N.take ps.length = ps
  kind : scope.kind = .function
  co : scope.isCoroutine = false
  gen : scope.isGenerator = false
  par : ∀ y ∈ ps, scope.names.lookup y = some .local
  cel : ∀ y ∈ scope.names, y.2 ≠ .cell
abbrev cloEnv (L : LamI) (l f c' : Addr) (cl : List (Str × Addr)) : Env := PySem.W.envX L.qual L.scope l f (.ref c') cl
def cloCx (P : Program) (w : World) (K : PySem.W.Frag) (mg : Str → Option Value) (base : Heap) (N : List Str) (L : LamI) (cl : List (Str × Addr)) (f c' : Addr) (A : Around) (outer : List Env) (s : Shared) (H : Hp) : Cx where
  prog := P
  w := w
  K := K
  mg := mg
  base := base
  A := A.deeper (cloEnv L s.heap.objs.size f c' cl)
  N := N
  s_0 := s
  H_0 := H
  env := cloEnv L s.heap.objs.size f c' cl
  outer := outer
  stack := cloEnv L s.heap.objs.size f c' cl :: outer
  ex := []
  fn := fun _ => false
  calm := true
  pn := []
  xe := fun _ _ => False
theorem HOk.hid {P : Program} {w : World} {K : PySem.W.Frag} {G : Addr → Prop} {S : HD} {H : Hp} {a : Addr} {L : LamI} {cl : List (Str × Addr)} {cs : List (Str × D)} {h : Heap} (x : HOk P w H h) (t : CloAt K G S H a L cl cs) : HOk P w (hidC H cl) h := fun b u e => by
  have nb : ¬ InC cl b := fun q => by rw [hidC_in q] at e; cases e
  rw [hidC_out nb] at e
  refine (x b u e).stay (fun _ _ _ q => q) (fun d q => ?_) (fun d xs q => ?_)
  · exact (hidC_out (t.out q id)).trans q
  · exact (hidC_out (t.out q id)).trans q
theorem mem_zip_lookup {ps : List Str} {us : List Value} {i : Nat} {y : Str} {u : Value} (nd : ps.Nodup) (hi : ps[i]? = some y) (hu : us[i]? = some u) : (ps.zip us).reverse.lookup y = some u := by
  have key : ∀ {l : List (Str × Value)}, (l.map (·.1)).Nodup → (y, u) ∈ l → l.lookup y = some u := by
    intro l
    induction l with
    | nil => intro _ h; cases h
    | cons q r ih =>
      intro n h
      obtain ⟨z, v⟩ := q
      rw [List.map_cons, List.nodup_cons] at n
      rcases List.mem_cons.mp h with h | h
      · cases h
        simp
      · have ne : y ≠ z := fun e => n.1 (e ▸ List.mem_map.mpr ⟨_, h, rfl⟩)
        rw [List.lookup_cons, show (y == z) = false from beq_false_of_ne ne]
        exact ih n.2 h
  have hm : (y, u) ∈ ps.zip us := List.mem_of_getElem? (i := i) (by rw [List.getElem?_zip_eq_some]; exact ⟨hi, hu⟩)
  have sub : ∀ (l : List Str) (m : List Value), ((l.zip m).map (·.1)).Sublist l := by
    intro l
    induction l with
    | nil => intro m; simp
    | cons a r ih =>
      intro m
      cases m with
      | nil => simp
      | cons b m => simpa using ih m
  refine key ?_ (List.mem_reverse.mpr hm)
  rw [List.map_reverse]
  exact (List.reverse_perm _).nodup_iff.mpr (nd.sublist (sub ps us))
section
variable {P : Program} {w : World} {K : PySem.W.Frag} {mg : Str → Option Value} {base : Heap}
/-- the entry into a lambda's body -/
theorem clo_start {N ps : List Str} {L : LamI} {cl : List (Str × Addr)} {cs : List (Str × D)} {G : Addr → Prop} {S : HD} {a c' : Addr} {A : Around} {outer : List Env} {s : Shared} {H : Hp} {us : List Value} {vs : List V} {h₁ : Heap} {tk : Nat}
    (Sc : LScope N ps L.scope) (hd : A.handled = none) (e0 : Env0 P w K mg base A outer s H) (t : CloAt K G S H a L cl cs) (hl : vs.length = ps.length) (hn : cs.map (·.1) = N.drop ps.length) (r : Vals vs us)
    (hns : h₁.Ns s.heap.objs.size fun y => (ps.zip us).reverse.lookup y) (kp : ∀ b o, s.heap.get? b = some o → h₁.get? b = some o) {τ : List (Option V)} (lt : τ.length = cs.length)
    (hτ : ∀ (i : Nat) (y : Str) (d : D) (v : V), cs[i]? = some (y, d) → τ[i]? = some (some v) → ∃ c o u, cl.lookup y = some c ∧ H c = some (KnO c o) ∧ o.data = .cell (some u) ∧ RelV v u ∧ L.scope.names.lookup y = some .free) :
    Inv (cloCx P w K mg base N L cl a c' A outer s (hidC H cl)) [] (vs.map some ++ τ) (hidC H cl) { s with heap := h₁, toks := tk } := by
  have noA : ∀ b : Addr, b ∉ (cloCx P w K mg base N L cl a c' A outer s (hidC H cl)).ex := fun b z => absurd (show b ∈ ([] : List Addr) from z) (by simp)
  have hN : N = ps ++ cs.map (·.1) := by rw [hn]; conv => lhs; rw [← List.take_append_drop ps.length N, Sc.pre]
  have cellK : ∀ {y : Str} {c : Addr}, cl.lookup y = some c → ∃ o u, s.heap.get? c = some o ∧ o.data = .cell (some u) := fun {y c} e => by
    obtain ⟨o, u, e1, _, e2⟩ := t.inC ⟨y, e⟩
    exact ⟨o, u, (e0.hok c _ e1).1, e2⟩
  refine ⟨⟨e0.mod, Sc.kind, rfl, rfl, Nat.le_refl _, fun x y c h1 h2 => t.inj x y c h1 h2, fun y hy => ?_, fun y c z _ => ?_, fun _ => hd, Around.frames_deeper e0.frames, .inr ⟨rfl, rfl⟩, fun b z => absurd z (noA b), fun b o e => ⟨(e0.bs b o e).1, hidC_none (e0.bs b o e).2⟩, e0.bsz, fun b _ _ => noA b, fun b z => absurd z (noA b), e0.funs, fun b z => hidC_none (e0.frf b z)⟩,
    rfl, e0.bare, Un.kept kp, ⟨_, hns, fun i y v e1 e2 e3 => ?_⟩, fun y c e => ?_, hidC_none (e0.hok.fresh (Nat.le_refl _)), fun y c e => hidC_in ⟨y, e⟩, fun q hq => absurd (show q ∈ ([] : List (Addr × Obj)) ++ [] from hq) (by simp), (HOk.hid e0.hok t).kept kp, ?_⟩
  · have hy : L.scope.names.lookup y = some .cell ∨ L.scope.names.lookup y = some .free := hy
    rcases hy with hy | hy
    · exact absurd rfl (Sc.cel _ (PySem.mem_of_lookup hy))
    · exact t.free y hy
  · have z : false = true := z
    cases z
  · have e1 : N[i]? = some y := e1
    rw [hN] at e1
    by_cases hi : i < ps.length
    · rw [List.getElem?_append_left hi] at e1
      rw [List.getElem?_append_left (by simp; omega), List.getElem?_map] at e2
      cases ev : vs[i]? with
      | none => rw [ev] at e2; cases e2
      | some v' =>
        rw [ev] at e2
        cases e2
        obtain ⟨u, hu, rv⟩ := r.get ev
        have ndP : ps.Nodup := by rw [← Sc.pre]; exact Sc.nd.sublist (List.take_sublist _ _)
        exact ⟨u, rv, .inl ⟨Sc.par y (List.mem_of_getElem? e1), mem_zip_lookup ndP e1 hu⟩⟩
    · have hi' : ps.length ≤ i := Nat.le_of_not_lt hi
      rw [List.getElem?_append_right hi', List.getElem?_map] at e1
      rw [List.getElem?_append_right (by simp; omega), List.length_map, hl] at e2
      cases ec : cs[i - ps.length]? with
      | none => rw [ec] at e1; cases e1
      | some q =>
        obtain ⟨y', d⟩ := q
        rw [ec] at e1
        cases e1
        obtain ⟨c, o, u, h1, h2, h3, h4, h5⟩ := hτ _ _ _ _ ec e2
        exact ⟨u, h4, .inr ⟨.inr h5, c, h1, o, kp _ _ (e0.hok c _ h2).1, h3⟩⟩
  · obtain ⟨o, u, e1, e2⟩ := cellK e
    exact ⟨_, o, kp _ _ e1, e2⟩
  · show (vs.map some ++ τ).length = N.length
    rw [hN]
    simp [hl, lt]
/-- the slots at the entry -/
abbrev lamS (ds : List D) (cs : List (Str × D)) : SD := ds.map some ++ cs.map fun p => some p.2
theorem lamS_ok {G : Addr → Prop} {S : HD} {H : Hp} {ds : List D} {vs : List V} {cs : List (Str × D)} {τ : List (Option V)} (r : RDs K G S H ds vs) (lt : τ.length = cs.length)
    (h : ∀ (i : Nat) (y : Str) (d : D), cs[i]? = some (y, d) → ∃ v, τ[i]? = some (some v) ∧ RD K G S H d v) : RSl K G S H (lamS ds cs) (vs.map some ++ τ) := by
  have hl := r.length
  refine ⟨by simp [hl, lt], fun i d e => ?_⟩
  by_cases hi : i < ds.length
  · rw [List.getElem?_append_left (by simpa using hi), List.getElem?_map] at e
    cases ed : ds[i]? with
    | none => rw [ed] at e; cases e
    | some d' =>
      rw [ed] at e; cases e
      obtain ⟨v, h1, h2⟩ := r.get ed
      exact ⟨v, by rw [List.getElem?_append_left (by simp; omega), List.getElem?_map, h1]; rfl, h2⟩
  · rw [List.getElem?_append_right (by simpa using Nat.le_of_not_lt hi), List.length_map, List.getElem?_map] at e
    cases ec : cs[i - ds.length]? with
    | none => rw [ec] at e; cases e
    | some q =>
      rw [ec] at e; cases e
      obtain ⟨v, h1, h2⟩ := h _ q.1 q.2 ec
      exact ⟨v, by rw [List.getElem?_append_right (by simp; omega), List.length_map, ← hl]; exact h1, h2⟩
/-- what a call of a lambda does -/
def fvLam (L : LamI) (N : List Str) (n : Nat) (te : TED) : Addr → SpD := fun g ds S Q => ∃ cl cs, S.hp g = some (.clo L cl cs) ∧ ds.length = n ∧ cs.map (·.1) = N.drop n ∧ te (lamS ds cs) S.noclo fun d S' => Q d (S'.reclo S)
theorem HasV.lam {L : LamI} {N ps : List Str} {k : Nat} {te : TED} (Sc : LScope N ps L.scope) (hfr : ∀ y ∈ N.drop ps.length, L.scope.names.lookup y = some .free)
    (hbind : ∀ (cl : List (Str × Addr)) (pm cv ctv : Value) (us : List Value), us.length = ps.length → bindArgs (PySem.W.kla_fn "<lambda>" L.qual L.params L.body L.scope cl pm cv ctv) ⟨us, []⟩ = pure (ps.zip us))
    (hbody : ∀ (cl : List (Str × Addr)) (f c' : Addr) (A : Around) (outer : List Env) (s : Shared) (H : Hp), RoomG k (A.deeper (cloEnv L s.heap.objs.size f c' cl)) → DE (cloCx P w K mg base N L cl f c' A outer s H) L.body te) :
    HasV P w K mg base (k + 1) (fvLam L N ps.length te) := by
  refine ⟨fun g ds S Q G H s q rh hok kin => ?_, fun g A outer s H us vs ds G S Qd hr e0 r rd rh q => ?_⟩
  · obtain ⟨cl, cs, h, _⟩ := q
    obtain ⟨_, _, t⟩ := rh.hp g _ h
    obtain ⟨c', pm, ctv, h1, _⟩ := CloAt.fn t
    exact PySem.W.keeps_F _ ⟨_, _, _, _, (hok g _ h1).1⟩
  · obtain ⟨cl, cs, h, hds, hcs, q⟩ := q
    obtain ⟨ndk, ng, t⟩ := rh.hp g _ h
    have t : CloAt K G S H g L cl cs := t
    obtain ⟨c', pm, ctv, h1, hz, h2⟩ := t.fn
    have ho := (e0.hok g _ h1).1
    obtain ⟨⟨oc, vs', tq, hoc, hdc, hvc⟩, _, _⟩ := e0.hok c' _ h2
    have hl : vs.length = ps.length := rd.length.symm.trans hds
    have hul : us.length = ps.length := by have := r.length; omega
    have ndC : (cs.map (·.1)).Nodup := by rw [hcs]; exact Sc.nd.sublist (List.drop_sublist _ _)
    -- the captured values
    have look : ∀ {i : Nat} {y : Str} {d : D}, cs[i]? = some (y, d) → cs.lookup y = some d := by
      have key : ∀ {l : List (Str × D)} {y : Str} {d : D}, (l.map (·.1)).Nodup → (y, d) ∈ l → l.lookup y = some d := by
        intro l
        induction l with
        | nil => intro _ _ _ h; cases h
        | cons q r ih =>
          intro y d n hm
          obtain ⟨z, v⟩ := q
          rw [List.map_cons, List.nodup_cons] at n
          rcases List.mem_cons.mp hm with hm | hm
          · cases hm
            simp
          · have ne : y ≠ z := fun e => n.1 (e ▸ List.mem_map.mpr ⟨_, hm, rfl⟩)
            rw [List.lookup_cons, show (y == z) = false from beq_false_of_ne ne]
            exact ih n.2 hm
      exact fun {i y d} e => key ndC (List.mem_of_getElem? e)
    have mv := t.mvIn
    have ex : ∀ p : Str × D, ∃ o : Option V, cs.lookup p.1 = some p.2 → ∃ v, o = some v ∧ RD K G S.noclo (hidC H cl) p.2 v ∧ ∃ c ob u, cl.lookup p.1 = some c ∧ H c = some (KnO c ob) ∧ ob.data = .cell (some u) ∧ RelV v u := fun p => by
      by_cases e : cs.lookup p.1 = some p.2
      · obtain ⟨c, ob, u, v, a1, _, a2, a3, a4, a5⟩ := t.cap _ _ e
        exact ⟨some v, fun _ => ⟨v, rfl, a5.mv0 mv, c, ob, u, a1, a2, a3, a4⟩⟩
      · exact ⟨none, fun q => (e q).elim⟩
    let g1 : Str × D → Option V := fun p => (ex p).choose
    have g1s := fun p => (ex p).choose_spec
    have kin : K.In s.heap := e0.mod.kin.keeps fun b o e => (e0.bs b o e).1
    have lim : s.heap.NoLimit := e0.mod.nolimit.keeps fun b o e => (e0.bs b o e).1
    have rhM := rh.hid t
    have rdM := rd.mv0 mv
    have rsl : RSl K G S.noclo (hidC H cl) (lamS ds cs) (vs.map some ++ cs.map g1) := lamS_ok rdM (by simp) fun i y d e => by
      obtain ⟨v, a1, a2, _⟩ := g1s (y, d) (look e)
      exact ⟨v, by rw [List.getElem?_map, e]; exact congrArg some a1, a2⟩
    refine PySem.W.kla_callFunE hr.rm.depth ho rfl Sc.co Sc.gen rfl ⟨c', oc, vs', tq, rfl, hoc, hdc, hvc⟩ ?_
    rw [hbind cl pm _ ctv us hul]
    refine wpAny_pure (wpAny_newFunctionEnv Sc.cel (fun y hy => Sc.par _ (List.of_mem_zip hy).1) (fun h₁ hns hsb => ⟨lim.fresh _ hsb, ?_⟩) Sc.kind)
    show codeAny _ _ (.expr L.body (cloEnv L s.heap.objs.size g c' cl)) _ _
    have kp : ∀ b o, s.heap.get? b = some o → h₁.get? b = some o := fun b o e => hsb.extBut b o (Nat.ne_of_lt (Heap.lt_size e)) (Heap.get?_push_of_some _ e)
    have J := clo_start (c' := c') (tk := s.toks + (ps.zip us).length) Sc hr.rm.hd e0 t hl hcs r hns kp (τ := cs.map g1) (by simp) fun i y d v e1 e2 => by
      rw [List.getElem?_map, e1] at e2
      obtain ⟨v', a1, _, c, ob, u, b1, b2, b3, b4⟩ := g1s (y, d) (look e1)
      have e3 : g1 (y, d) = some v := Option.some.inj e2
      have e4 : some v' = some v := a1.symm.trans e3
      cases e4
      exact ⟨c, ob, u, b1, b2, b3, b4, hfr y (by rw [← hcs]; exact List.mem_map.mpr ⟨_, List.mem_of_getElem? e1, rfl⟩)⟩
    have hb := hbody cl g c' A outer s (hidC H cl) (hr.deeper _)
    refine PySem.W.kla_codeExpr (wpAny_mono (hb.run [] _ _ (hidC H cl) (fun v H' => ∃ S' d, FL S.noclo (hidC H cl) S' H' ∧ RH K G S' H' ∧ RD K G S' H' d v ∧ Qd d (S'.reclo S)) J ⟨G, _, S.noclo, _, rsl, rhM, q, fun S' d v H' f' rh' rd' q' => ⟨S', d, f', rh', rd', q'⟩⟩) (fun u s' hq => ?_) fun e s' hq => False.elim hq)
    obtain ⟨v, H', J', rv, S', d, f', rh', rd', q'⟩ := hq
    have un : Un (frs outer) [] (hidC H cl) H' s.heap s'.heap := J'.base
    have nC : ∀ b, InC cl b → H' b = none := fun b hb => by
      obtain ⟨o, u', e1, _, _⟩ := t.inC hb
      exact un.free b o (e0.hok b _ e1).1 (hidC_in hb) (by simp)
    refine ⟨v, reC H' H cl, J'.os, J'.bare, ⟨fun b o e n x1 x2 => un.keep b o e (hidC_none n) x1 x2, fun b o e n x1 x2 => un.slot b o e (hidC_none n) x1 x2, fun b o e n x1 => ?_, un.there, fun b xs e => ?_, fun b o u e => ?_, fun b qs e => ?_⟩, fun b u e => ?_, rv, S'.reclo S, d, re_fl rh t f' rh' nC, re_rh rh t f' rh' nC, rd'.mv0 (re_mv0 rh t f' rh' nC), q'⟩
    · exact (reC_out fun z => by obtain ⟨_, _, e1, _⟩ := t.inC z; rw [n] at e1; cases e1).trans (un.free b o e (hidC_none n) x1)
    · have nb := t.out e id
      exact (reC_out nb).trans (un.tups b xs ((hidC_out nb).trans e))
    · by_cases hb : InC cl b
      · exact (reC_in hb).trans e
      · exact (reC_out hb).trans (un.frzs b o u ((hidC_out hb).trans e))
    · have nb := t.out e id
      obtain ⟨more, z⟩ := un.tbls b qs ((hidC_out nb).trans e)
      exact ⟨more, (reC_out nb).trans z⟩
    · by_cases hb : InC cl b
      · rw [reC_in hb] at e
        obtain ⟨o, u', e1, _, _⟩ := t.inC hb
        rw [e1] at e
        cases e
        have e2 := (e0.hok b _ e1).1
        have nf : b ∉ frs outer := fun z => by
          have := e0.frf b z
          rw [e1] at this; cases this
        have e3 := un.keep b o e2 (hidC_in hb) nf (by simp)
        exact ⟨e3, o, e3⟩
      · rw [reC_out hb] at e
        refine (J'.hok b u e).stay (fun _ _ _ z => z) (fun x z => ?_) (fun x xs z => ?_)
        · exact (reC_out fun y => by rw [nC x y] at z; cases z).trans z
        · exact (reC_out fun y => by rw [nC x y] at z; cases z).trans z
end
end PD
end

section
/-! PD42: lambdas made in a def and handed to a call. -/
namespace PD
open PySem PySem.Spec PyProof.Rows L2

theorem upd_comm {H : Hp} {a b : Addr} {o u : HO} (h : a ≠ b) : L2.upd (L2.upd H a o) b u = L2.upd (L2.upd H b u) a o := by
  funext c
  by_cases h1 : c = a
  · subst h1
    rw [upd_ne h, upd_same, upd_same]
  · by_cases h2 : c = b
    · subst h2
      rw [upd_same, upd_ne h1, upd_same]
    · rw [upd_ne h2, upd_ne h1, upd_ne h1, upd_ne h2]
theorem set_id {S : HD} {a : Addr} {o : OD} (h : S.hp a = some o) : S.set a o = S := by
  refine HD.ext' (funext fun b => ?_) rfl rfl
  by_cases e : b = a
  · subst e
    rw [HD.set_same, h]
  · rw [HD.set_ne e]
/-- a function that was made of a lambda and is not told of yet -/
def Raw (X : Cx) (G : Addr → Prop) (S : HD) (H : Hp) (g : Addr) (L : LamI) : Prop :=
  ∃ c' pm ctv, H g = some (KnO g (L.obj (cloFrom X.env.cells L.scope.names []) pm c' ctv)) ∧ Fz G S g ∧ Fz G S c' ∧ H c' = some (LamX.CodeO c' L.qual)
theorem _root_.PD.RH.fresh' {X : Cx} {G : Addr → Prop} {S : HD} {H : Hp} {g : Addr} {L : LamI} (_ : RH X.K G S H) (r : Raw X G S H g L) : ¬ Dk S g := let ⟨_, _, _, _, z, _⟩ := r; z.2.1
theorem Raw.fl {X : Cx} {G : Addr → Prop} {S S' : HD} {H H' : Hp} {g : Addr} {L : LamI} (r : Raw X G S H g L) (f : FL S H S' H') : Raw X G S' H' g L := by
  obtain ⟨c', pm, ctv, h1, z1, z2, h2⟩ := r
  exact ⟨c', pm, ctv, (f.mv.kp g _ h1 z1).2, (f.mv.kp g _ h1 z1).1, (f.mv.kp c' _ h2 z2).1, (f.mv.kp c' _ h2 z2).2⟩
section
variable {X : Cx} {pins : List (Addr × Obj)} {σ : L2.St} {H : Hp} {s : Shared}
/-- the lambda is made -/
theorem lam_made {G : Addr → Prop} {S : HD} {c P : Addr} {params : Arguments} {body : Expr} {scope : Scope} {pos : Pos} {E : Value → Shared → Prop} {Q : Value → Shared → Prop} (I : Inv X pins σ H s) (rh : RH X.K G S H) (TB : LamX.TabB X.base X.mg c P) (hcode : X.env.code = .ref c)
    (hS : S.hp P = some (.tab (X.env.qual ++ "<lambda>"))) (hdef : defaultsOf params X.env = ([], [])) (hfree : ∀ y ∈ scope.names, y.2 = .free → ∃ c, X.env.cells.lookup y.1 = some c)
    (h : ∀ (g : Addr) (H1 : Hp) (s' : Shared), Inv X pins σ H1 s' → FL S H S H1 → RH X.K G S H1 → H g = none → Raw X G S H1 g ⟨X.env.qual ++ "<lambda>", params, body, scope⟩ → Q (.ref g) s') :
    wpAny (model X.prog X.w) X.A (eval (.Lambda params body scope pos) X.env) Q E s := by
  obtain ⟨ndk, ng, ps, hP, ht, ha⟩ := rh.hp P _ hS
  refine PySem.W.kla_eval hdef ?_
  have bP := TB.bm.keeps I.bk
  have hP' := I.hok P _ hP
  -- the function's object is laid on what the code's making left
  have lay : ∀ (H0 : Hp) (h' : Heap) (tk : Nat) (c' : Addr) (ctv : Value), Inv X pins σ H0 { s with heap := h', toks := tk } → FL S H S H0 → RH X.K G S H0 → s.heap.objs.size ≤ h'.objs.size → Fz G S c' → H0 c' = some (LamX.CodeO c' (X.env.qual ++ "<lambda>")) →
      Q (.ref h'.objs.size) { s with heap := h'.push (PySem.W.kla_obj "<lambda>" (X.env.qual ++ "<lambda>") params body scope (cloFrom X.env.cells scope.names []) ((X.mg "__name__").getD .none) c' ctv), toks := tk } := by
    intro H0 h' tk c' ctv I0 f0 rh0 hsz hz hc
    generalize hob : PySem.W.kla_obj "<lambda>" (X.env.qual ++ "<lambda>") params body scope (cloFrom X.env.cells scope.names []) ((X.mg "__name__").getD .none) c' ctv = ob
    have kp : ∀ b u, h'.get? b = some u → (h'.push ob).get? b = some u := fun b u e => Heap.get?_push_of_some _ e
    have new : (h'.push ob).get? h'.objs.size = some ob := by rw [← hob]; exact Heap.get?_push_size _ rfl
    have n0 : H0 h'.objs.size = none := I0.hok.fresh (Nat.le_refl _)
    have J := I0.laid (t' := tk) kp (Nat.le_refl _) (o := KnO h'.objs.size ob) ⟨new, _, new⟩
    obtain ⟨r1, f1, z1⟩ := rh0.newF n0 (KnO h'.objs.size ob)
    refine h _ _ _ J (f0.trans f1) r1 (I.hok.fresh hsz) ⟨c', (X.mg "__name__").getD .none, ctv, upd_same.trans (by rw [← hob]; rfl), z1, hz, ?_⟩
    rw [upd_ne (ne_of_none hc n0)]
    exact hc
  cases hc : codeAmong pos ps.toList with
  | none =>
    refine PySem.W.kla_makeFunction (mg := X.mg) (c := c) (P := P) (ps := ps) (closure_ok hfree) I.ok.glob (I.mod.glob.keeps I.bk) hcode (TB.code.keeps I.bk) hP' ht hc TB.gP bP fun c' ctv h' tk hx hge hlt hrec htb => ?_
    obtain ⟨c2, oc, vs, t, e2, hoc, hd, hv⟩ := hrec
    cases e2
    have nC : H c' = none := I.hok.fresh hge
    have nPc : P ≠ c' := ne_of_none hP nC
    have I1 := LamX.inv_table (t' := tk) (q := X.env.qual ++ "<lambda>") (more := #[rawInt pos.line, rawInt pos.col, .ref c']) (h' := h') I hP (fun b o hb e => hx b o hb e) htb hge ⟨oc, vs, t, hoc, hd, hv⟩
    obtain ⟨r1, f1, z1⟩ := rh.newF nC (LamX.CodeO c' (X.env.qual ++ "<lambda>"))
    have tab2 : TabAt G S (L2.upd (L2.upd H c' (LamX.CodeO c' (X.env.qual ++ "<lambda>"))) P (.tbl (ps ++ #[rawInt pos.line, rawInt pos.col, .ref c']))) P (X.env.qual ++ "<lambda>") := by
      have eL : (ps ++ #[rawInt pos.line, rawInt pos.col, Value.ref c']).toList = ps.toList ++ [rawInt pos.line, rawInt pos.col, .ref c'] := by simp
      refine ⟨_, upd_same, by rw [eL]; exact PySem.TriplesOk_snoc _ _ _ _ ht, fun p' cv hcv => ?_⟩
      rw [eL] at hcv
      rcases LamX.among_app _ ht hcv with z | z
      · obtain ⟨c0, e1, z0, e3⟩ := ha p' cv z
        refine ⟨c0, e1, z0, ?_⟩
        rw [upd_ne (fun q => by rw [q, hP] at e3; cases e3), upd_ne (ne_of_none e3 nC)]
        exact e3
      · exact ⟨c', z, z1, by rw [upd_ne nPc.symm, upd_same]⟩
    obtain ⟨r2, f2⟩ := r1.write hS (o' := .tab (X.env.qual ++ "<lambda>")) (ho := .tbl (ps ++ #[rawInt pos.line, rawInt pos.col, .ref c'])) (by rw [set_id hS]; exact tab2)
    rw [set_id hS] at r2 f2
    rw [← upd_comm nPc] at r2 f2
    exact lay _ h' tk c' ctv I1 (f1.trans f2) r2 (Nat.le_trans hge (Nat.le_of_lt hlt)) z1 upd_same
  | some cv =>
    obtain ⟨c', e, hz, hco⟩ := ha pos cv hc
    subst e
    refine PySem.W.kla_makeFunctionHit (mg := X.mg) (c := c) (P := P) (ps := ps) (closure_ok hfree) I.ok.glob (I.mod.glob.keeps I.bk) hcode (TB.code.keeps I.bk) hP' ht hc bP fun ctv h' tk hx hsz => ?_
    exact lay H h' tk c' ctv (I.kept (t' := tk) fun b o e => hx b o e) (.refl _ _) rh hsz hz hco
end

/-! ### arguments with lambdas among them -/
/-- a lambda that was made: its place, what it is made of, what it captures (with the slots) -/
structure LamG where
  g : Addr
  L : LamI
  cp : List (Str × Nat)
abbrev TADL := SD → HD → (List D → List LamG → HD → Prop) → Prop
/-- what a lambda captures stands in cells of its maker, and is all that it captures -/
def capB (N : List Str) (sc ls : Scope) (cp : List (Str × Nat)) : Bool :=
  cp.all (fun p => decide (N[p.2]? = some p.1) && (decide (sc.names.lookup p.1 = some .cell) || decide (sc.names.lookup p.1 = some .free)) && decide (ls.names.lookup p.1 = some .free)) &&
  ls.names.all (fun y => !decide (y.2 = .free) || (cp.map (·.1)).contains y.1) && decide (cp.map (·.1)).Nodup
structure CapOk (X : Cx) (L : LamI) (cp : List (Str × Nat)) : Prop where
  at_ : ∀ p ∈ cp, X.N[p.2]? = some p.1 ∧ (X.env.scope.names.lookup p.1 = some .cell ∨ X.env.scope.names.lookup p.1 = some .free) ∧ L.scope.names.lookup p.1 = some .free
  all : ∀ y ∈ L.scope.names, y.2 = .free → ∃ i, (y.1, i) ∈ cp
  nd : (cp.map (·.1)).Nodup
theorem capOk_by {X : Cx} {L : LamI} {cp : List (Str × Nat)} (h : capB X.N X.env.scope L.scope cp = true) : CapOk X L cp := by
  unfold capB at h
  simp only [Bool.and_eq_true, List.all_eq_true, decide_eq_true_eq, Bool.or_eq_true, Bool.not_eq_true', decide_eq_false_iff_not] at h
  obtain ⟨⟨h1, h2⟩, h3⟩ := h
  refine ⟨fun p hp => ⟨(h1 p hp).1.1, (h1 p hp).1.2, (h1 p hp).2⟩, fun y hy e => ?_, h3⟩
  rcases h2 y hy with z | z
  · exact absurd e z
  · have z2 := List.contains_iff_mem.mp z
    obtain ⟨q, hq, e2⟩ := List.mem_map.mp z2
    exact ⟨q.2, by rw [← e2]; exact hq⟩
theorem CapOk.has {X : Cx} {L : LamI} {cp : List (Str × Nat)} (h : CapOk X L cp) (ok : X.Ok) : ∀ y ∈ L.scope.names, y.2 = .free → ∃ c, X.env.cells.lookup y.1 = some c := fun y hy e => by
  obtain ⟨i, hi⟩ := h.all y hy e
  exact ok.has _ (h.at_ _ hi).2.1
/-- nothing was there ahead -/
def New (S : HD) (H : Hp) (g : Addr) : Prop := ∀ o, H g = some o → S.hp g = none → Dk S g
theorem New.back {S S' : HD} {H H' : Hp} {g : Addr} (n : New S' H' g) (f : FL S H S' H') : New S H g := fun o e h => Classical.byContradiction fun d =>
  let ⟨h1, h2, h3⟩ := f.kp g o e h d
  h2 (n o h3 h1)
structure Told (X : Cx) (G : Addr → Prop) (S0 : HD) (H0 : Hp) (S : HD) (H : Hp) (ls : List LamG) : Prop where
  raw : ∀ p ∈ ls, Raw X G S H p.g p.L
  cap : ∀ p ∈ ls, CapOk X p.L p.cp
  new : ∀ p ∈ ls, New S0 H0 p.g
  nd : (ls.map (·.g)).Nodup
theorem Told.back {X : Cx} {G : Addr → Prop} {S0 S1 S : HD} {H0 H1 H : Hp} {ls : List LamG} (t : Told X G S1 H1 S H ls) (f : FL S0 H0 S1 H1) : Told X G S0 H0 S H ls := ⟨t.raw, t.cap, fun p hp => (t.new p hp).back f, t.nd⟩
def upAL (X : Cx) (t : TADL) : TA := fun σ H Q => ∃ G σd S Qd, RSl X.K G S H σd σ ∧ RH X.K G S H ∧ t σd S Qd ∧
  ∀ S' ds ls vs H', FL S H S' H' → RH X.K G S' H' → RDs X.K G S' H' ds vs → Told X G S H S' H' ls → Qd ds ls S' → Q vs H'
abbrev DAL (X : Cx) (es : List Expr) (t : TADL) : Prop := PA X es (upAL X t)
def tNilL : TADL := fun _ S Q => Q [] [] S
def tConsL (te : TED) (tr : TADL) : TADL := fun σ S Q => te σ S fun d S1 => tr σ S1 fun ds ls S2 => Q (d :: ds) ls S2
def tLamL (P : Addr) (L : LamI) (cp : List (Str × Nat)) (tr : TADL) : TADL := fun σ S Q => S.hp P = some (.tab L.qual) ∧ ∀ g, S.hp g = none → tr σ S fun ds ls S2 => Q (.ref g :: ds) (⟨g, L, cp⟩ :: ls) S2
section
variable {X : Cx} {e : Expr} {es : List Expr} {te : TED} {tr : TADL}
theorem dal_nil : DAL X [] tNilL := pa_nil.imp fun σ H Q ⟨G, σd, S, Qd, rs, rh, t, p⟩ => p S [] [] [] H (.refl _ _) rh .nil ⟨fun _ z => (nomatch z), fun _ z => (nomatch z), fun _ z => (nomatch z), List.Pairwise.nil⟩ t
theorem dal_cons (h : DE X e te) (hr : DAL X es tr) (hs : starEach (e :: es) X.env = (false, eval e X.env) :: starEach es X.env := by rfl) : DAL X (e :: es) (tConsL te tr) :=
  (pa_cons h hr hs).imp fun σ H Q ⟨G, σd, S, Qd, rs, rh, t, p⟩ => ⟨G, σd, S, _, rs, rh, t, fun S1 d v H1 f1 rh1 q1 t1 =>
    ⟨G, σd, S1, _, rs.fl f1, rh1, t1, fun S2 ds ls vs H2 f2 rh2 q2 tl t2 => p S2 _ ls _ H2 (f1.trans f2) rh2 (.cons (q1.fl f2) q2) (tl.back f1) t2⟩⟩
theorem dal_lam {c P : Addr} {params : Arguments} {body : Expr} {scope : Scope} {pos : Pos} {L : LamI} {cp : List (Str × Nat)} (TB : LamX.TabB X.base X.mg c P) (hL : L = ⟨X.env.qual ++ "<lambda>", params, body, scope⟩) (hcp : capB X.N X.env.scope scope cp = true) (hr : DAL X es tr)
    (hcode : X.env.code = .ref c := by rfl) (hdef : defaultsOf params X.env = ([], []) := by rfl) (hs : starEach (.Lambda params body scope pos :: es) X.env = (false, eval (.Lambda params body scope pos) X.env) :: starEach es X.env := by rfl) :
    DAL X (.Lambda params body scope pos :: es) (tLamL P L cp tr) := by
  subst hL
  have co : CapOk X ⟨X.env.qual ++ "<lambda>", params, body, scope⟩ cp := capOk_by hcp
  refine ⟨fun pos' pins s σ H Q I ⟨G, σd, S, Qd, rs, rh, t, p⟩ => ?_⟩
  obtain ⟨hS, t⟩ := t
  rw [hs]
  show wpAny _ _ (spliced ((false, eval (.Lambda params body scope pos) X.env) :: backTo pos' (starEach es X.env))) _ _ s
  refine Calls.spliced_cons (lam_made I rh TB hcode hS hdef (co.has I.ok) fun g H1 s' I1 f1 rh1 hg raw => ?_)
  have hSg : S.hp g = none := (rh.fresh hg).1
  have hz : ∃ o, H1 g = some o := let ⟨_, _, _, h1, _⟩ := raw; ⟨_, h1⟩
  refine thn (hr.run pos' pins s' σ H1 (fun vs H2 => Q (.ref g :: vs) H2) I1 ⟨G, σd, S, _, rs.fl f1, rh1, t g hSg, fun S2 ds ls vs H2 f2 rh2 q2 tl t2 => ?_⟩) fun us s2 ⟨vs, H2, I2, r2, q2⟩ => ⟨.ref g :: vs, H2, I2, .cons rfl r2, q2⟩
  refine p S2 _ _ _ H2 (f1.trans f2) rh2 (.cons (.ref g) q2) ⟨fun x hx => ?_, fun x hx => ?_, fun x hx => ?_, ?_⟩ t2
  · rcases List.mem_cons.mp hx with rfl | hx
    · exact raw.fl f2
    · exact tl.raw x hx
  · rcases List.mem_cons.mp hx with rfl | hx
    · exact co
    · exact tl.cap x hx
  · rcases List.mem_cons.mp hx with rfl | hx
    · intro o e
      rw [hg] at e; cases e
    · exact (tl.new x hx).back f1
  · rw [List.map_cons, List.nodup_cons]
    refine ⟨fun z => ?_, tl.nd⟩
    obtain ⟨x, hx, ex⟩ := List.mem_map.mp z
    have n := tl.new x hx
    rw [ex] at n
    obtain ⟨o, e⟩ := hz
    exact (rh1.fresh' raw) (n o e hSg)
end
end PD
end

section
/-! PD43: calls that are handed lambdas. -/
namespace PD
open PySem PySem.Spec PyProof.Rows L2

/-- the captured values -/
def capD (σ : SD) (cp : List (Str × Nat)) : List (Str × D) := cp.filterMap fun p => (gt σ p.2).map fun d => (p.1, d)
/-- the lambdas are told of -/
def tell (cl : LamI → List (Str × Addr)) (σ : SD) (ls : List LamG) (S : HD) : HD := ls.foldl (fun S p => S.set p.g (.clo p.L (cl p.L) (capD σ p.cp))) S
open Classical in
/-- functions that were not told of ahead are forgotten -/
noncomputable def HD.keepclo (S' S : HD) : HD := { S' with hp := fun a => match S'.hp a with
  | some (.clo L cl cs) => if S.hp a = some (.clo L cl cs) then some (.clo L cl cs) else none
  | o => o }
@[simp] theorem keepclo_c {S S' : HD} : (S'.keepclo S).c = S'.c := rfl
@[simp] theorem keepclo_dk {S S' : HD} : (S'.keepclo S).dk = S'.dk := rfl
theorem keepclo_some {S S' : HD} {a : Addr} {o : OD} (h : (S'.keepclo S).hp a = some o) : S'.hp a = some o ∧ (o.isClo = false ∨ S.hp a = some o) := by
  unfold HD.keepclo at h
  dsimp only at h
  cases e : S'.hp a with
  | none => rw [e] at h; cases h
  | some u =>
    rw [e] at h
    cases u with
    | clo L cl cs =>
      dsimp only at h
      split at h
      · rename_i e2
        cases h
        exact ⟨rfl, .inr e2⟩
      · cases h
    | _ => cases h; exact ⟨rfl, .inl rfl⟩
theorem keepclo_none {S S' : HD} {a : Addr} (h : S'.hp a = none) : (S'.keepclo S).hp a = none := by
  unfold HD.keepclo
  dsimp only
  rw [h]
@[simp] theorem keepclo_self (S : HD) : S.keepclo S = S := by
  refine HD.ext' (funext fun a => ?_) rfl rfl
  unfold HD.keepclo
  dsimp only
  cases e : S.hp a with
  | none => rfl
  | some u =>
    cases u with
    | clo L cl cs => exact if_pos rfl
    | _ => rfl
theorem keepclo_set {S S' : HD} {g : Addr} {L : LamI} {cl : List (Str × Addr)} {cs : List (Str × D)} (h : S.hp g = none) (h' : S'.hp g = none) : (S'.set g (.clo L cl cs)).keepclo S = S'.keepclo S := by
  refine HD.ext' (funext fun a => ?_) rfl rfl
  by_cases e : a = g
  · subst e
    rw [keepclo_none h']
    unfold HD.keepclo
    dsimp only
    rw [HD.set_same]
    dsimp only
    rw [h]
    exact if_neg (by simp)
  · unfold HD.keepclo
    dsimp only
    rw [HD.set_ne e]
theorem keepclo_tick {S S' : HD} {n : Nat} : (S'.tick n).keepclo S = (S'.keepclo S).tick n := rfl
theorem tell_none {cl : LamI → List (Str × Addr)} {σ : SD} {a : Addr} : ∀ {ls : List LamG} {S : HD}, (∀ p ∈ ls, p.g ≠ a) → (tell cl σ ls S).hp a = S.hp a
  | [], _, _ => rfl
  | p :: ls, S, h => (tell_none (ls := ls) fun q hq => h q (List.mem_cons_of_mem _ hq)).trans (HD.set_ne fun e => h p List.mem_cons_self e.symm)
theorem tell_at {cl : LamI → List (Str × Addr)} {σ : SD} {p : LamG} : ∀ {ls : List LamG} {S : HD}, (ls.map (·.g)).Nodup → p ∈ ls → (tell cl σ ls S).hp p.g = some (.clo p.L (cl p.L) (capD σ p.cp))
  | [], _, _, h => (nomatch h)
  | q :: ls, S, n, h => by
    rw [List.map_cons, List.nodup_cons] at n
    rcases List.mem_cons.mp h with rfl | h
    · exact (tell_none (ls := ls) fun x hx e => n.1 (List.mem_map.mpr ⟨x, hx, e⟩)).trans HD.set_same
    · exact tell_at (ls := ls) n.2 h
@[simp] theorem tell_c {cl : LamI → List (Str × Addr)} {σ : SD} : ∀ {ls : List LamG} {S : HD}, (tell cl σ ls S).c = S.c
  | [], _ => rfl
  | p :: ls, S => (tell_c (ls := ls)).trans rfl
@[simp] theorem tell_dk {cl : LamI → List (Str × Addr)} {σ : SD} : ∀ {ls : List LamG} {S : HD}, (tell cl σ ls S).dk = S.dk
  | [], _ => rfl
  | p :: ls, S => (tell_dk (ls := ls)).trans rfl
theorem keepclo_tell {cl : LamI → List (Str × Addr)} {σ : SD} {S : HD} : ∀ {ls : List LamG} {S' : HD}, (∀ p ∈ ls, S.hp p.g = none) → (∀ p ∈ ls, S'.hp p.g = none) → (ls.map (·.g)).Nodup → (tell cl σ ls S').keepclo S = S'.keepclo S
  | [], _, _, _, _ => rfl
  | p :: ls, S', h, h', n => by
    rw [List.map_cons, List.nodup_cons] at n
    refine (keepclo_tell (ls := ls) (S' := S'.set p.g _) (fun q hq => h q (List.mem_cons_of_mem _ hq)) (fun q hq => ?_) n.2).trans (keepclo_set (h p List.mem_cons_self) (h' p List.mem_cons_self))
    exact (HD.set_ne fun e => n.1 (List.mem_map.mpr ⟨q, hq, e⟩)).trans (h' q (List.mem_cons_of_mem _ hq))
theorem capD_mem {σ : SD} {cp : List (Str × Nat)} {y : Str} {d : D} (h : (capD σ cp).lookup y = some d) : ∃ i, (y, i) ∈ cp ∧ gt σ i = some d := by
  have hm := PySem.mem_of_lookup h
  unfold capD at hm
  obtain ⟨⟨y', i⟩, h1, h2⟩ := List.mem_filterMap.mp hm
  cases e : gt σ i with
  | none => simp [e] at h2
  | some d' =>
    simp only [e, Option.map_some, Option.some.injEq, Prod.mk.injEq] at h2
    obtain ⟨rfl, rfl⟩ := h2
    exact ⟨i, h1, e⟩
theorem capD_has {σ : SD} {cp : List (Str × Nat)} {y : Str} {i : Nat} {d : D} (h : (y, i) ∈ cp) (e : gt σ i = some d) : ∃ d', (capD σ cp).lookup y = some d' := by
  have hm : (y, d) ∈ capD σ cp := List.mem_filterMap.mpr ⟨(y, i), h, by simp [e]⟩
  exact L2.mem_lookup hm
open Classical in
/-- the frame's cells are known -/
noncomputable def revC (X : Cx) (s : Shared) (H : Hp) : Hp := fun b => if InC X.env.cells b then (s.heap.get? b).map (KnO b) else H b
theorem CloAt.gen {K : PySem.W.Frag} {G : Addr → Prop} {S S' : HD} {H H' : Hp} {a : Addr} {L : LamI} {cl : List (Str × Addr)} {cs : List (Str × D)} (t : CloAt K G S H a L cl cs) (m : Mv0 G S H G S' H') (ha : H' a = H a)
    (hc : ∀ c o u, InC cl c → H c = some (KnO c o) → o.data = .cell (some u) → Fz G S c → Fz G S' c ∧ H' c = H c) : CloAt K G S' H' a L cl cs := by
  refine ⟨?_, fun y d hd => ?_, t.cell, t.inj, t.free⟩
  · obtain ⟨c', pm, ctv, h1, z, h2⟩ := t.fn
    obtain ⟨k1, k2⟩ := m.kp c' _ h2 id z
    exact ⟨c', pm, ctv, ha.trans h1, k1, k2⟩
  · obtain ⟨c, o, u, v, h1, z, h2, h3, h4, h5⟩ := t.cap y d hd
    obtain ⟨k1, k2⟩ := hc c o u ⟨y, h1⟩ h2 h3 z
    exact ⟨c, o, u, v, h1, k1, k2.trans h2, h3, h4, h5.mv0 m⟩
section
variable {X : Cx} {pins : List (Addr × Obj)} {σ : L2.St} {σd : SD} {H : Hp} {s : Shared} {G : Addr → Prop} {S : HD} {ls : List LamG}
theorem clo_look {cells : List (Str × Addr)} {names : List (Str × NameKind)} (hf : ∀ y ∈ names, y.2 = .free → ∃ c, cells.lookup y.1 = some c) {y : Str} : (∀ c, (cloFrom cells names []).lookup y = some c → cells.lookup y = some c ∧ (y, NameKind.free) ∈ names) ∧ ((y, NameKind.free) ∈ names → ∃ c, (cloFrom cells names []).lookup y = some c) := by
  refine ⟨fun c e => ?_, fun h => L2.mem_lookup (cloFrom_has h)⟩
  rcases cloFrom_mem (PySem.mem_of_lookup e) with hm | ⟨h1, h2⟩
  · cases hm
  · obtain ⟨c1, hc⟩ := hf _ h1 rfl
    have hc : cells.lookup y = some c1 := hc
    rw [hc] at h2
    have h2 : c = c1 := h2
    exact ⟨h2 ▸ hc, h1⟩
/-- what is needed to tell of the lambdas -/
structure Way (X : Cx) (pins : List (Addr × Obj)) (σ : L2.St) (σd : SD) (H : Hp) (s : Shared) (G : Addr → Prop) (S : HD) (ls : List LamG) : Prop where
  I : Inv X pins σ H s
  rh : RH X.K G S H
  rs : RSl X.K G S H σd σ
  raw : ∀ p ∈ ls, Raw X G S H p.g p.L
  cap : ∀ p ∈ ls, CapOk X p.L p.cp
  nd : (ls.map (·.g)).Nodup
  full : ∀ p ∈ ls, ∀ q ∈ p.cp, ∃ d, gt σd q.2 = some d
  fn : ∀ y, X.fn y = true
abbrev clX (X : Cx) : LamI → List (Str × Addr) := fun L => cloFrom X.env.cells L.scope.names []
variable (W : Way X pins σ σd H s G S ls)
include W
theorem Way.cell {b : Addr} (h : InC X.env.cells b) : H b = none ∧ S.hp b = none ∧ ¬ Dk S b ∧ ¬ G b ∧ ∃ o v, s.heap.get? b = some o ∧ o.data = .cell v ∧ revC X s H b = some (KnO b o) := by
  obtain ⟨y, hy⟩ := h
  have n := W.I.freeC y b hy
  obtain ⟨v, o, e, d⟩ := W.I.cell y b hy
  obtain ⟨h1, h2, h3⟩ := W.rh.fresh n
  refine ⟨n, h1, h2, h3, o, v, e, d, ?_⟩
  unfold revC
  rw [if_pos ⟨y, hy⟩, e]; rfl
theorem Way.out {b : Addr} {o : HO} (e : H b = some o) : ¬ InC X.env.cells b := fun q => by rw [(W.cell q).1] at e; cases e
theorem Way.rev {b : Addr} {o : HO} (e : H b = some o) : revC X s H b = some o := (if_neg (W.out e)).trans e
theorem Way.g_ne {b : Addr} {o : HO} (e : H b = some o) (n : ¬ Kn o) : ∀ p ∈ ls, p.g ≠ b := fun p hp q => by
  obtain ⟨_, _, _, h1, _⟩ := W.raw p hp
  rw [q, e] at h1; cases h1
  exact n True.intro
theorem Way.mv : Mv0 G S H G (tell (clX X) σd ls S) (revC X s H) := by
  refine ⟨fun b o e n z => ⟨⟨(tell_none (W.g_ne e n)).trans z.1, ?_, z.2.2⟩, W.rev e⟩, fun p e => by rw [tell_dk]; exact e⟩
  have := z.2.1
  unfold Dk at this ⊢
  rwa [tell_dk]
theorem Way.dkE {b : Addr} : Dk (tell (clX X) σd ls S) b ↔ Dk S b := by unfold Dk; rw [tell_dk]
theorem Way.look (p : LamG) (hp : p ∈ ls) : ∀ y ∈ p.L.scope.names, y.2 = .free → ∃ c, X.env.cells.lookup y.1 = some c := (W.cap p hp).has W.I.ok
theorem Way.clo (p : LamG) (hp : p ∈ ls) : CloAt X.K G (tell (clX X) σd ls S) (revC X s H) p.g p.L (clX X p.L) (capD σd p.cp) := by
  have co := W.cap p hp
  have lk := fun y => clo_look (W.look p hp) (y := y)
  refine ⟨?_, fun y d hd => ?_, fun y c hc => ?_, fun x y c h1 h2 => ?_, fun y hy => ?_⟩
  · obtain ⟨c', pm, ctv, h1, z1, z2, h2⟩ := W.raw p hp
    exact ⟨c', pm, ctv, W.rev h1, (W.mv.kp c' _ h2 id z2).1, W.rev h2⟩
  · obtain ⟨i, hi, hg⟩ := capD_mem hd
    obtain ⟨hN, hk, hl⟩ := co.at_ _ hi
    obtain ⟨v, hv, rd⟩ := W.rs.sl i d (gt_some hg)
    obtain ⟨m, hn, hloc⟩ := W.I.loc
    obtain ⟨u, rv, q⟩ := hloc i y v hN hv (hk.elim (fun z => .inr (.inl z)) fun z => .inr (.inr z))
    rcases q with ⟨k', _⟩ | ⟨_, c, e', o, ho, hd'⟩
    · have k' : X.env.scope.names.lookup y = some .local := k'
      rcases hk with hk | hk <;> rw [show X.env.scope.names.lookup y = _ from hk] at k' <;> cases k'
    · obtain ⟨c2, h2⟩ := (lk y).2 (PySem.mem_of_lookup hl)
      have h3 := ((lk y).1 c2 h2).1
      rw [e'] at h3
      cases h3
      obtain ⟨n1, n2, n3, n4, o', v', e1, _, e2⟩ := W.cell ⟨y, e'⟩
      rw [ho] at e1
      cases e1
      refine ⟨c, o, u, v, h2, ⟨(tell_none fun q hq z => ?_).trans n2, fun z => n3 (W.dkE.mp z), n4⟩, e2, hd', rv, rd.mv0 W.mv⟩
      obtain ⟨_, _, _, h1, _⟩ := W.raw q hq
      rw [z, n1] at h1; cases h1
  · obtain ⟨_, hy⟩ := (lk y).1 c hc
    obtain ⟨i, hi⟩ := co.all _ hy rfl
    obtain ⟨d, hd⟩ := W.full p hp _ hi
    exact capD_has hi hd
  · exact W.I.ok.inj x y c ((lk x).1 c h1).1 ((lk y).1 c h2).1
  · exact (lk y).2 (PySem.mem_of_lookup hy)
theorem Way.RHp : RH X.K G (tell (clX X) σd ls S) (revC X s H) := by
  refine W.rh.trans0 W.mv tell_dk (by rw [tell_c]; exact Nat.le_refl _) (fun a o e => ?_) (fun a o g e => ⟨o, W.rev e⟩) (fun a b e => ?_)
  · by_cases h : ∃ p ∈ ls, p.g = a
    · obtain ⟨p, hp, rfl⟩ := h
      rw [tell_at W.nd hp] at e
      cases e
      obtain ⟨_, _, _, _, z, _⟩ := W.raw p hp
      exact .inr ⟨z.2.1, z.2.2, W.clo p hp⟩
    · rw [tell_none fun p hp q => h ⟨p, hp, q⟩] at e
      obtain ⟨h1, h2, h3⟩ := W.rh.hp a o e
      obtain ⟨u, hu⟩ := h3.there
      cases hc : o.isClo with
      | false => exact .inl ⟨rfl, e, (W.rev hu).trans hu.symm⟩
      | true =>
        refine .inr ⟨h1, h2, ?_⟩
        cases o with
        | clo L cl cs =>
          refine CloAt.gen (t := h3) W.mv ((W.rev hu).trans hu.symm) fun c ob u' hin hk hd z => ⟨⟨(tell_none fun p hp q => ?_).trans z.1, fun y => z.2.1 (W.dkE.mp y), z.2.2⟩, (W.rev hk).trans hk.symm⟩
          obtain ⟨_, _, _, g1, _⟩ := W.raw p hp
          rw [q, hk] at g1
          cases g1
          cases hd
        | _ => cases hc
  · obtain ⟨_, h2, h3, _, _, d1, d2, _⟩ := W.rh.dk a b e
    have n : ∀ {z : Addr}, Dk S z → S.hp z = none → (tell (clX X) σd ls S).hp z = none := fun {z} d hz => (tell_none fun p hp q => by
      obtain ⟨_, _, _, _, y, _⟩ := W.raw p hp
      exact y.2.1 (q ▸ d)).trans hz
    exact ⟨(W.rev d1).trans d1.symm, (W.rev d2).trans d2.symm, n ⟨_, e, .inl rfl⟩ h2, n ⟨_, e, .inr rfl⟩ h3⟩
theorem Way.hok : HOk X.prog X.w (revC X s H) s.heap := fun b u e => by
  by_cases h : InC X.env.cells b
  · obtain ⟨_, _, _, _, o, v, e1, _, e2⟩ := W.cell h
    rw [e2] at e
    cases e
    exact ⟨e1, o, e1⟩
  · have e' : H b = some u := (if_neg h).symm.trans e
    exact (W.I.hok b u e').stay (fun _ _ _ q => q) (fun d q => W.rev q) fun d xs q => W.rev q
theorem Way.nbase {b : Addr} (h : InC X.env.cells b) : X.s_0.heap.objs.size ≤ b := by
  obtain ⟨y, hy⟩ := h
  exact W.I.ok.cab y b (W.fn y) hy
theorem Way.nfr {b : Addr} (h : InC X.env.cells b) : b ∉ frs X.stack := fun hb => by
  rcases List.mem_cons.mp (W.I.stkSub b hb) with e | e
  · obtain ⟨y, hy⟩ := h
    exact W.I.cne y b hy e
  · obtain ⟨_, o, ho, _⟩ := W.I.ok.funs.mem e
    exact absurd (Heap.lt_size ho) (Nat.not_lt.mpr (W.nbase h))
theorem Way.env : Env0 X.prog X.w X.K X.mg X.base X.A X.stack s (revC X s H) := by
  have e0 := W.I.env0
  refine ⟨e0.frames, e0.mod, fun b o e => ⟨(e0.bs b o e).1, ?_⟩, e0.bsz, e0.funs, fun b hb => ?_, W.hok, e0.bare⟩
  · have nb : ¬ InC X.env.cells b := fun q => absurd (Heap.lt_size e) (Nat.not_lt.mpr (Nat.le_trans W.I.ok.bsz (W.nbase q)))
    exact (if_neg nb).trans (e0.bs b o e).2
  · exact (if_neg fun q => W.nfr q hb).trans (e0.frf b hb)
/-- back from the call -/
theorem Way.back {S0 : HD} {H0 : Hp} {S' : HD} {H' : Hp} {s' : Shared} (f1 : FL S0 H0 S H) (nw : ∀ p ∈ ls, New S0 H0 p.g) (un : Un (frs X.stack) [] (revC X s H) H' s.heap s'.heap) (hok : HOk X.prog X.w H' s'.heap) (f : FL (tell (clX X) σd ls S) (revC X s H) S' H') (rh' : RH X.K G S' H') :
    Un (frs X.stack) [] H (hidC H' X.env.cells) s.heap s'.heap ∧ HOk X.prog X.w (hidC H' X.env.cells) s'.heap ∧ FL S0 H0 (S'.keepclo S) (hidC H' X.env.cells) ∧ RH X.K G (S'.keepclo S) (hidC H' X.env.cells) ∧ Mv0 G S' H' G (S'.keepclo S) (hidC H' X.env.cells) := by
  -- a cell behind the call
  have cel : ∀ {b : Addr}, InC X.env.cells b → ∃ o, s.heap.get? b = some o ∧ S'.hp b = none ∧ H' b = some (KnO b o) := fun {b} h => by
    obtain ⟨n1, n2, n3, n4, o, v, e1, _, e2⟩ := W.cell h
    obtain ⟨k1, k2, k3⟩ := f.kp b _ e2 ((tell_none fun p hp q => by
      obtain ⟨_, _, _, g1, _⟩ := W.raw p hp
      rw [q, n1] at g1; cases g1).trans n2) fun z => n3 (W.dkE.mp z)
    exact ⟨o, e1, k1, k3⟩
  have outK : ∀ {b : Addr} {o : HO}, H' b = some o → ¬ Kn o → ¬ InC X.env.cells b := fun {b o} e n q => by
    obtain ⟨o', _, _, e2⟩ := cel q
    rw [e] at e2; cases e2
    exact n True.intro
  have outS : ∀ {b : Addr} {o : OD}, S'.hp b = some o → ¬ InC X.env.cells b := fun {b o} e q => by
    obtain ⟨_, _, e2, _⟩ := cel q
    rw [e] at e2; cases e2
  have m0 : Mv0 G S' H' G (S'.keepclo S) (hidC H' X.env.cells) := ⟨fun b o e n z => ⟨⟨keepclo_none z.1, z.2.1, z.2.2⟩, (hidC_out (outK e n)).trans e⟩, fun _ e => e⟩
  refine ⟨⟨fun b o e n x1 x2 => ?_, fun b o e n x1 x2 => ?_, fun b o e n x1 => ?_, un.there, fun b xs e => ?_, fun b o u e => ?_, fun b qs e => ?_⟩, fun b u e => ?_, ⟨fun b o e n d => ?_, fun p e => ?_⟩, ?_, m0⟩
  · by_cases h : InC X.env.cells b
    · obtain ⟨o', e1, _, e2⟩ := cel h
      rw [e] at e1
      cases e1
      exact (hok b _ e2).1
    · exact un.keep b o e ((if_neg h).trans n) x1 x2
  · exact un.slot b o e ((if_neg fun q => W.nfr q x1).trans n) x1 x2
  · by_cases h : InC X.env.cells b
    · exact hidC_in h
    · exact (hidC_out h).trans (un.free b o e ((if_neg h).trans n) x1)
  · have z := un.tups b xs (W.rev e)
    exact (hidC_out (outK z id)).trans z
  · have z := un.frzs b o u (W.rev e)
    exact (hidC_out (fun q => by
      have := W.out e
      exact this q)).trans z
  · obtain ⟨more, z⟩ := un.tbls b qs (W.rev e)
    exact ⟨more, (hidC_out (outK z id)).trans z⟩
  · have nb : ¬ InC X.env.cells b := fun q => by rw [hidC_in q] at e; cases e
    rw [hidC_out nb] at e
    exact (hok b u e).stay (fun _ _ _ q => q) (fun x z => (hidC_out (outK z id)).trans z) fun x xs z => (hidC_out (outK z id)).trans z
  · obtain ⟨h1, h2, h3⟩ := f1.kp b o e n d
    have ng : ∀ p ∈ ls, p.g ≠ b := fun p hp q => d (nw p hp o (q ▸ e) (q ▸ n) |> fun z => q ▸ z)
    obtain ⟨k1, k2, k3⟩ := f.kp b o (W.rev h3) ((tell_none ng).trans h1) fun z => h2 (W.dkE.mp z)
    exact ⟨keepclo_none k1, k2, (hidC_out (W.out h3)).trans k3⟩
  · exact f.dk p (by rw [tell_dk]; exact f1.dk p e)
  · refine rh'.trans0 m0 rfl (Nat.le_refl _) (fun a o e => ?_) (fun a o g e => ?_) (fun a b e => ?_)
    · obtain ⟨e1, e2⟩ := keepclo_some e
      have oa := outS e1
      obtain ⟨h1, h2, h3⟩ := rh'.hp a o e1
      cases hc : o.isClo with
      | false => exact .inl ⟨rfl, e1, hidC_out oa⟩
      | true =>
        refine .inr ⟨h1, h2, ?_⟩
        rcases e2 with e2 | e2
        · rw [hc] at e2; cases e2
        · cases o with
          | clo L cl cs =>
            refine CloAt.gen (t := h3) m0 (hidC_out oa) fun c ob u hin hk hd z => ?_
            have t1 : CloAt X.K G S H a L cl cs := (W.rh.hp a _ e2).2.2
            obtain ⟨o1, _, k1, _⟩ := t1.inC hin
            exact ⟨⟨keepclo_none z.1, z.2.1, z.2.2⟩, hidC_out (W.out k1)⟩
          | _ => cases hc
    · refine ⟨o, (hidC_out fun q => ?_).trans e⟩
      obtain ⟨n1, n2, n3, n4, _⟩ := W.cell q
      exact n4 g
    · obtain ⟨_, h2, h3, _, _, d1, d2, _⟩ := rh'.dk a b e
      exact ⟨hidC_out (outK d1 id), hidC_out (outK d2 id), keepclo_none h2, keepclo_none h3⟩
end
/-- the callee runs, handed lambdas -/
theorem run_told {X : Cx} {pins : List (Addr × Obj)} {σ : L2.St} {σd : SD} {H1 H : Hp} {s : Shared} {us : List Value} {vs : List V} {ds : List D} {G : Addr → Prop} {S S1 : HD} {Qd : QD} {Q : VK} {ls : List LamG} {k : Nat} {f : Addr} {fd : FuncData} {ps : List Str} {sp : SpD}
    (F : FnD X.prog X.w X.K X.mg X.base k f fd ps sp) (hr : RoomG k X.A) (hb : Binds X.K fd ps []) (W : Way X pins σ σd H1 s G S1 ls) (r : Vals vs us) (q : RDs X.K G S1 H1 ds vs) (f1 : FL S H S1 H1) (nw : ∀ p ∈ ls, New S H p.g)
    (h : sp ds (tell (clX X) σd ls S1) fun d S' => Qd d (S'.keepclo S1)) (p : Post X.K G S H Qd Q) :
    wpAny (model X.prog X.w) X.A (call (.ref f) us) (EP X pins σ Q) X.xe s := by
  have hl : us.length = ps.length := by
    have h1 := F.len _ _ _ h
    have h2 := q.length
    have h3 := r.length
    omega
  have hb' := hb s us W.I.kIn (by rw [List.append_nil]; exact hl)
  rw [List.append_nil] at hb'
  refine wpAny_call (codeAny_mono (F.run X.A X.stack s (revC X s H1) ⟨us, []⟩ us vs ds G (tell (clX X) σd ls S1) _ hr W.env hb' r (q.mv0 W.mv) W.RHp h) fun z s' hq => ?_)
  cases z with
  | error e => exact False.elim hq
  | ok fl =>
    cases fl with
    | ret u =>
      obtain ⟨v, H', os, bare, un, hok, rv, S', d, f', rh', rd', qd⟩ := hq
      obtain ⟨b1, b2, b3, b4, b5⟩ := W.back f1 nw un hok f' rh'
      exact W.I.after ⟨v, hidC H' X.env.cells, os, bare, b1, b2, rv, p _ d v _ b3 b4 (rd'.mv0 b5) qd⟩
    | next => exact False.elim hq
    | brk => exact False.elim hq
    | cont => exact False.elim hq
/-- f(.., lambda ..: .., ..) -/
def tCallL (sp : SpD) (ta : TADL) : TED := fun σ S Q => ta σ S fun ds ls S1 => (∀ p ∈ ls, ∀ q ∈ p.cp, ∃ d, gt σ q.2 = some d) ∧ ((∀ p ∈ ls, S1.hp p.g = none) → (ls.map (·.g)).Nodup → ∀ cl, sp ds (tell cl σ ls S1) fun d S' => Q d (S'.keepclo S1))
section
variable {X : Cx} {k : Nat} {f : Addr} {fd : FuncData} {ps : List Str} {sp : SpD} {x : Str} {p pos : Pos} {e : Expr} {es : List Expr} {ta : TADL}
theorem de_callL (h : Has X.prog X.w X.K X.mg X.base k x ps sp) (hr : RoomG k X.A) (ha : DAL X (e :: es) ta) (hfn : ∀ y, X.fn y = true := by intro _; rfl) (hg : Gl X x := by rfl) (hdb : (x == ("__debug__" : Str)) = false := by decide)
    (he : starEach (e :: es) X.env = (false, eval e X.env) :: starEach es X.env := by rfl) (hpl : (backTo pos (starEach es X.env)).any (·.1) = false := by rfl) :
    DE X (.Call (.Name x p) (e :: es) [] pos) (tCallL sp ta) := by
  obtain ⟨f, fd, hm, hk, hb, F⟩ := h.ex
  refine ⟨fun pins s σ H Q I ⟨G, σd, S, Qd, rs, rh, t, p⟩ => ?_⟩
  refine wpAny_Call_Name_kw (ld_glob I hg hm ?_ hdb)
  have hA := ha.run pos pins s σ H (fun vs H1 => ∃ S1 ds ls, FL S H S1 H1 ∧ RH X.K G S1 H1 ∧ RDs X.K G S1 H1 ds vs ∧ Told X G S H S1 H1 ls ∧ (∀ p ∈ ls, ∀ q ∈ p.cp, ∃ d, gt σd q.2 = some d) ∧ ((∀ p ∈ ls, S1.hp p.g = none) → (ls.map (·.g)).Nodup → ∀ cl, sp ds (tell cl σd ls S1) fun d S' => Qd d (S'.keepclo S1)))
    I ⟨G, σd, S, _, rs, rh, t, fun S1 ds ls vs H1 f1 rh1 q1 tl t1 => ⟨S1, ds, ls, f1, rh1, q1, tl, t1⟩⟩
  refine PySem.W.callWith_K (h₀ := X.base) I.ok.mod.kin hk ?_ he hpl
  refine thn hA fun us s1 hus => ?_
  obtain ⟨vs, H1, I1, r, S1, ds, ls, f1, rh1, q1, tl, full, t1⟩ := hus
  refine ⟨I1.kIn, run_told F hr hb ⟨I1, rh1, rs.fl f1, tl.raw, tl.cap, tl.nd, full, hfn⟩ r q1 f1 tl.new (t1 (fun p hp => ?_) tl.nd _) p⟩
  obtain ⟨_, _, _, _, z, _⟩ := tl.raw p hp
  exact z.1
end
end PD
end

section
/-! PD44: defs that make lambdas; the law's end with their tables. -/
namespace PD
open PySem PySem.Spec PyProof.Rows L2

/-- a def of the module whose code is c, with the table P -/
structure DefT (K : PySem.W.Frag) (mg : Str → Option Value) (x : Str) (st : Stmt) (c P : Addr) : Prop where
  ex : ∃ f fd, Fun K x x st f fd ∧ mg x = some (.ref f) ∧ fd.code = .ref c
  ht : PySem.W.tabIn K x = some (c, P)
theorem DefT.mk' {K : PySem.W.Frag} {mg : Str → Option Value} {x : Str} {st : Stmt} {h : Heap} {c P : Addr} (X : K.In h) (G : h.Ns mainGlobals mg) (D : DefOf K mg x st) (ht : PySem.W.tabIn K x = some (c, P)) : DefT K mg x st c P := by
  obtain ⟨f, fd, F, hm⟩ := D.ex
  obtain ⟨oc, od, kV, dc, pm, an, cd, ct, osl, e, lk, _⟩ := F.ex
  exact ⟨⟨f, fd, F, hm, PySem.W.law_code X G ht hm (X _ _ lk) rfl⟩, ht⟩
theorem DefT.of {K : PySem.W.Frag} {mg : Str → Option Value} {x : Str} {st : Stmt} {c P : Addr} (D : DefT K mg x st c P) : DefOf K mg x st := let ⟨f, fd, F, hm, _⟩ := D.ex; ⟨f, fd, F, hm⟩

/-- the tables at the start -/
def tabH (ts : List (Addr × Str)) : Addr → Option OD := fun b => (ts.lookup b).map OD.tab
def spLawT (ts : List (Addr × Str)) : SpD := fun ds S Q => ∃ ns : List Int, ds = [.lst (ns.map D.int)] ∧ ns.length ≤ 63 ∧ S.hp = tabH ts ∧ S.c = 0 ∧ S.dk = none ∧ ∀ S', Q (.bl true) S'
def ST (ts : List (Addr × Str)) : HD := ⟨tabH ts, 0, none⟩
section
variable {P : Program} {w : World} {K : PySem.W.Frag} {mg mb : Str → Option Value} {k : Nat} {fa a : Addr} {fd : FuncData} {x : Str} {s₁ : Shared} {vs : List Value} {ns : List Int} {cs : List (Addr × Addr)} {ts : List (Addr × Str)}
/-- the script, if it is not written, and the tables -/
noncomputable def scrT (cs : List (Addr × Addr)) (a : Addr) (own : Bool) (vs : List Value) (ns : List Int) : Hp := fun b => if b ∈ cs.map (·.2) then some (.tbl #[]) else if own = true ∧ b = a then some (.frz { cls := .type "list", data := .seq vs.toArray } (.lst (ns.map V.int))) else none
theorem law_callT (KX : K.In s₁.heap) (hns : s₁.heap.Ns mainGlobals mg) (hsy : SysB s₁.heap) (hb : s₁.heap.Ns builtinsNs mb) (hbb : ∀ x : Str, x ≠ "__name__" → mb x = bootBuiltins x) (hlim : s₁.heap.NoLimit) (hg : s₁.gens = #[])
    (hT : ∀ p ∈ cs, PySem.W.CodeHd s₁.heap p.1 p.2 ∧ s₁.heap.get? p.2 = some (PySem.W.tabObj #[])) (nT : ∀ p ∈ cs, K.lookup p.2 = none) (hts : ∀ b, (∃ q, ts.lookup b = some q) ↔ b ∈ cs.map (·.2))
    (hbm : ∃ (bm : Addr) (ob : Obj), mg "__builtins__" = some (.ref bm) ∧ bm ≠ builtinsNs ∧ s₁.heap.get? bm = some ob ∧ ob.cls = .type "module" ∧ ob.dict = some builtinsNs ∧ ob.data = .plain)
    (ha : s₁.heap.get? a = some { cls := .type "list", data := .seq vs.toArray }) (hi : IntsAre vs ns) (hl : ns.length ≤ 63) (hr : RoomG k callerA)
    (F : ∀ base : Heap, K.In base → base.Ns mainGlobals mg → SysB base → (∀ p ∈ cs, LamX.TabB base mg p.1 p.2) → FnD P w K mg base k fa fd [x] (spLawT ts)) (hbind : ∀ (s : Shared) (u : Value), BindsTo s fd ⟨[u], []⟩ [(x, u)]) :
    codeAny (model P w) callerA (.call (.ref fa) ⟨[.ref a], []⟩) (fun r s' => r = .ok (.ret (.bool true)) ∧ OldK s₁.heap s'.heap ∧ s'.os = s₁.os ∧ AllBare s'.gens) s₁ := by
  have rv := vals_ints hi
  have hz : ns.length ≤ sizeLine := Nat.le_trans hl (by decide)
  have hvz : vs.toArray.size ≤ sizeLine := by rw [List.size_toArray, hi.length]; exact hz
  have isT : ∀ {b : Addr}, b ∈ cs.map (·.2) → s₁.heap.get? b = some (PySem.W.tabObj #[]) := fun {b} hb => by
    obtain ⟨p, hp, rfl⟩ := List.mem_map.mp hb
    exact (hT p hp).2
  have aT : a ∉ cs.map (·.2) := fun z => by
    have q := isT z
    rw [ha] at q
    cases q
  have memT : ∀ {p : Addr × Addr}, p ∈ cs → p.2 ∈ cs.map (·.2) := fun {p} hp => List.mem_map.mpr ⟨p, hp, rfl⟩
  -- whichever way the script is known
  have go : ∀ own : Bool, (own = false → ∃ o, K.lookup a = some o) → (own = true → K.lookup a = none) →
      codeAny (model P w) callerA (.call (.ref fa) ⟨[.ref a], []⟩) (fun r s' => r = .ok (.ret (.bool true)) ∧ OldK s₁.heap s'.heap ∧ s'.os = s₁.os ∧ AllBare s'.gens) s₁ := by
    intro own own0 own1
    generalize hH : scrT cs a own vs ns = H
    have Ht : ∀ {b : Addr}, b ∈ cs.map (·.2) → H b = some (.tbl #[]) := fun {b} h => by rw [← hH]; exact if_pos h
    have Ha : own = true → H a = some (.frz { cls := .type "list", data := .seq vs.toArray } (.lst (ns.map V.int))) := fun h => by rw [← hH]; exact (if_neg aT).trans (if_pos ⟨h, rfl⟩)
    have Hc : ∀ b, H b = none ∨ (b ∈ cs.map (·.2) ∧ H b = some (.tbl #[])) ∨ (b = a ∧ own = true) := fun b => by
      by_cases h : b ∈ cs.map (·.2)
      · exact .inr (.inl ⟨h, Ht h⟩)
      · by_cases h2 : own = true ∧ b = a
        · exact .inr (.inr ⟨h2.2, h2.1⟩)
        · refine .inl ?_
          rw [← hH]
          exact (if_neg h).trans (if_neg h2)
    -- what is neither a sequence nor an empty table is not tracked
    have free : ∀ {b : Addr} {o : Obj}, s₁.heap.get? b = some o → (∀ xs n, o.data ≠ .seq xs n) → o.data ≠ .fields #[] → H b = none := fun {b o} e n1 n2 => by
      rcases Hc b with z | ⟨z, _⟩ | ⟨z, _⟩
      · exact z
      · rw [isT z] at e
        cases e
        exact (n2 rfl).elim
      · rw [z, ha] at e
        cases e
        exact (n1 _ _ rfl).elim
    have freeD : ∀ {b : Addr} {o : Obj} {es : Array DictEntry} {ep : Nat}, s₁.heap.get? b = some o → o.data = .dict es ep → H b = none := fun {b o es ep} e d =>
      free e (fun xs n z => by rw [d] at z; cases z) fun z => by rw [d] at z; cases z
    have nsK : ∀ {b : Addr} {m : Str → Option Value}, s₁.heap.Ns b m → (hidT s₁.heap H).Ns b m := fun {b m} ⟨o, es, ep, e, d, r⟩ => ⟨o, es, ep, hidT_get e (freeD e d), d, r⟩
    have kin : K.In (hidT s₁.heap H) := fun b o e => hidT_get (KX b o e) (by
      rcases Hc b with z | ⟨z, _⟩ | ⟨z, z2⟩
      · exact z
      · obtain ⟨p, hp, rfl⟩ := List.mem_map.mp z
        rw [nT p hp] at e; cases e
      · rw [z, own1 z2] at e; cases e)
    have md : Mod K mg (hidT s₁.heap H) := ⟨kin, nsK hns, ⟨mb, nsK hb, hbb⟩, let ⟨mc, h1, h2⟩ := hlim; ⟨mc, nsK h1, h2⟩⟩
    have sy : SysB (hidT s₁.heap H) := let ⟨mm, h⟩ := hsy; ⟨mm, nsK h⟩
    have tb : ∀ p ∈ cs, LamX.TabB (hidT s₁.heap H) mg p.1 p.2 := fun p hp => by
      obtain ⟨C, hP⟩ := hT p hp
      refine ⟨?_, ?_, fun z => ?_⟩
      · obtain ⟨o, us, file, tf, flags, tg, inF, text, tt, e1, r1, r2, r3, rest⟩ := C
        refine ⟨o, us, file, tf, flags, tg, inF, text, tt, hidT_get e1 (free e1 (fun xs n z => by rw [r2] at z; cases z) fun z => ?_), r1, r2, r3, rest⟩
        rw [r2] at z
        cases z
        simp at r3
      · obtain ⟨bm, ob, b1, b2, b3, b4, b5, b6⟩ := hbm
        refine ⟨bm, ob, b1, b2, fun q => ?_, fun q => ?_, hidT_get b3 (free b3 (fun xs n z => by rw [b6] at z; cases z) fun z => by rw [b6] at z; cases z), b4, b5, b6⟩
        · obtain ⟨o, es, ep, e, hd, _⟩ := hns
          rw [q, e] at b3
          cases b3
          rw [hd] at b6; cases b6
        · rw [q, hP] at b3
          cases b3
          cases b6
      · obtain ⟨o, es, ep, e, hd, _⟩ := hns
        rw [z, hP] at e
        cases e
        cases hd
    have hok : HOk P w H s₁.heap := fun b u z => by
      rcases Hc b with q | ⟨q, q2⟩ | ⟨q, q2⟩
      · rw [q] at z; cases z
      · rw [q2] at z
        cases z
        exact isT q
      · subst q
        rw [Ha q2] at z
        cases z
        exact ⟨ha, by rw [List.length_map]; exact hz, vs, _, rv, ha⟩
    have ev : Env0 P w K mg (hidT s₁.heap H) callerA [] s₁ H := ⟨rfl, md, fun b o e => of_hidT e, Nat.le_of_eq (hidT_size _ _), trivial, fun b hb => (nomatch (show b ∈ ([] : List Addr) from hb)), hok, .of_eq hg⟩
    have tn : ∀ {b : Addr}, b ∉ cs.map (·.2) → (ST ts).hp b = none := fun {b} h => by
      show (ts.lookup b).map OD.tab = none
      cases e : ts.lookup b with
      | none => rfl
      | some q => exact (h ((hts b).mp ⟨q, e⟩)).elim
    have rh : RH K (fun _ => False) (ST ts) H := by
      refine ⟨fun b o e => ⟨fun z => let ⟨_, e, _⟩ := z; (nomatch (show (none : Option (Addr × Addr)) = some _ from e)), id, ?_⟩, fun b (g : False) => False.elim g, fun _ _ e => (nomatch (show (none : Option (Addr × Addr)) = some _ from e))⟩
      have e' : (ts.lookup b).map OD.tab = some o := e
      cases q : ts.lookup b with
      | none => rw [q] at e'; cases e'
      | some t =>
        rw [q] at e'
        cases e'
        exact ⟨#[], Ht ((hts b).mp ⟨t, q⟩), True.intro, fun pos cv hc => by
          have z : codeAmong pos [] = some cv := hc
          simp [codeAmong] at z⟩
    have scr : RD K (fun _ => False) (ST ts) H (.lst (ns.map D.int)) (.ref a) := by
      cases ho : own with
      | false =>
        obtain ⟨o, hk⟩ := own0 ho
        have e := KX a o hk
        rw [ha] at e
        cases e
        exact .lst (.inr ⟨_, vs.toArray, _, hk, rfl, rfl, rfl, hvz, by simpa using rv⟩) (rds_ofInts ns)
      | true => exact .lst (.inl ⟨⟨tn aT, fun z => let ⟨_, e, _⟩ := z; (nomatch (show (none : Option (Addr × Addr)) = some _ from e)), id⟩, .inr ⟨_, Ha ho⟩⟩) (rds_ofInts ns)
    have run := (F _ kin (nsK hns) sy tb).run callerA [] s₁ H ⟨[.ref a], []⟩ [.ref a] [.ref a] [.lst (ns.map D.int)] (fun _ => False) (ST ts) (fun d _ => d = .bl true) hr ev (hbind s₁ (.ref a)) (.cons rfl .nil) (.cons scr .nil) rh ⟨ns, rfl, hl, rfl, rfl, rfl, fun _ => rfl⟩
    refine codeAny_mono run fun r s' h => ?_
    match r, h with
    | .error e, h => exact False.elim h
    | .ok .next, h => exact False.elim h
    | .ok .brk, h => exact False.elim h
    | .ok .cont, h => exact False.elim h
    | .ok (.ret u), h =>
      obtain ⟨v, H', os, bare, un, hok', r', S', d, _, _, rd, rfl⟩ := h
      cases rd
      obtain rfl : u = Value.bool true := r'
      have tab' : ∀ {b : Addr}, b ∈ cs.map (·.2) → ∃ more : Array Value, s'.heap.get? b = some (PySem.W.tabObj more) := fun {b} hb => by
        obtain ⟨more, z⟩ := un.tbls b #[] (Ht hb)
        exact ⟨_, hok' b _ z⟩
      have old : ∀ {b : Addr} {o : Obj}, b ∉ cs.map (·.2) → s₁.heap.get? b = some o → s'.heap.get? b = some o := fun {b o} nb e => by
        rcases Hc b with z | ⟨z, _⟩ | ⟨z, z2⟩
        · exact un.keep b o e z (fun q => nomatch (show b ∈ ([] : List Addr) from q)) (by simp)
        · exact (nb z).elim
        · subst z
          obtain ⟨e1, _⟩ := hok b _ (Ha z2)
          obtain ⟨e2, _⟩ := hok' b _ (un.frzs b _ _ (Ha z2))
          exact e2.trans (e1.symm.trans e)
      refine ⟨rfl, ⟨fun b o e => ?_, fun b o e => ?_⟩, os, bare⟩
      · by_cases hb : b ∈ cs.map (·.2)
        · obtain ⟨more, hm⟩ := tab' hb
          rw [isT hb] at e
          cases e
          obtain ⟨p, hp, rfl⟩ := List.mem_map.mp hb
          exact .inr (.inl ⟨((hT p hp).1.tab (isT hb)).isCodeTable, rfl, #[], more, rfl, by rw [Array.empty_append]; exact hm⟩)
        · exact .inl (old hb e)
      · by_cases hb : b ∈ cs.map (·.2)
        · obtain ⟨more, hm⟩ := tab' hb
          exact ⟨_, hm⟩
        · exact ⟨o, old hb e⟩
  cases hk : K.lookup a with
  | some o => exact go false (fun _ => ⟨o, hk⟩) fun h => (nomatch h)
  | none => exact go true (fun h => (nomatch h)) fun _ => hk
end
theorem look_mem {β : Type} {b : Addr} {z : β} : ∀ {l : List (Addr × β)}, l.lookup b = some z → (b, z) ∈ l
  | (y, e) :: r, h => by
    rw [List.lookup_cons] at h
    cases hb : b == y with
    | true =>
      rw [hb] at h
      cases h
      rw [beq_iff_eq.mp hb]
      exact .head _
    | false =>
      rw [hb] at h
      exact .tail _ (look_mem h)
theorem mem_look {β : Type} {b : Addr} {z : β} : ∀ {l : List (Addr × β)}, (b, z) ∈ l → ∃ y, l.lookup b = some y
  | (y, e) :: r, h => by
    rw [List.lookup_cons]
    cases hb : b == y with
    | true => exact ⟨_, rfl⟩
    | false =>
      rcases List.mem_cons.mp h with q | q
      · cases q
        simp at hb
      · exact mem_look q
/-- what is known of a table at the head -/
structure TabK (q : Program) (K : PySem.W.Frag) (x : Str) (c P : Addr) : Prop where
  rec_ : ∃ d, (recsOf q).find? (fun e => e.name == x) = some d
  tab : PySem.W.tabIn K x = some (c, P)
  nK : K.lookup P = none
theorem walk_DT {l : PySem.W.OpenLaw} {k : Nat} {q : Program} {loose : List Str} {XP : (Str → Option Value) → Heap → Prop} {YP : World → Heap → Prop} {d : DefRec} {K : Params → PySem.W.Frag} {x : Str}
    (hn : l.most = some 63) (hdf : d.params.defaults = []) (hr : RoomG k callerA) (hi : importsNone q = true) (hY : ∀ (w : World) (h : Heap), YP w h → (K w.params).In h)
    (F : ∀ (w : World) (mg : Str → Option Value) (fa : Addr) (h : Heap), (K w.params).In h → h.Ns mainGlobals mg → mg d.name = some (.ref fa) →
      ∃ (ts : List (Str × Addr × Addr)) (fd : FuncData), (∀ p ∈ ts, TabK q (K w.params) p.1 p.2.1 p.2.2) ∧ (∀ (s : Shared) (u : Value), BindsTo s fd ⟨[u], []⟩ [(x, u)]) ∧
        ∀ base : Heap, (K w.params).In base → base.Ns mainGlobals mg → SysB base → (∀ p ∈ ts, LamX.TabB base mg p.2.1 p.2.2) → FnD l.prog w (K w.params) mg base k fa fd [x] (spLawT (ts.map fun p => (p.2.2, ((p.1 : Str) ++ ".<locals>.") ++ "<lambda>")))) :
    PySem.W.WalkO q loose XP YP l.row.toRowW d [] (fun f vs => PySem.call f vs) :=
  Att.attach_call hn hdf fun w s₀ s₁ mg mb fa o pm cd doc a vs ns G Y ho hd hcd hmg hobj hints hlen hg => by
    have KX := hY w _ Y
    obtain ⟨ts, fd, hts, hb, hF⟩ := F w mg fa _ KX G.T.g hmg
    have tabs : ∀ p ∈ ts.map (fun p => (p.2.1, p.2.2)), PySem.W.CodeHd s₁.heap p.1 p.2 ∧ s₁.heap.get? p.2 = some (PySem.W.tabObj #[]) := fun p hp => by
      obtain ⟨t, ht, rfl⟩ := List.mem_map.mp hp
      obtain ⟨dd, hdd⟩ := (hts t ht).rec_
      exact PySem.W.tab_of G.T KX hdd (hts t ht).tab
    refine law_callT (cs := ts.map fun p => (p.2.1, p.2.2)) KX G.T.g (let ⟨mm, h, _⟩ := (G.T.seer hi).mods; ⟨mm, h⟩) G.T.b G.T.builtins G.T.nolimit hg tabs (fun p hp => ?_) (fun b => ?_) G.T.bmain hobj hints hlen hr
      (fun base h1 h2 h3 h4 => hF base h1 h2 h3 fun p hp => h4 (p.2.1, p.2.2) (List.mem_map.mpr ⟨p, hp, rfl⟩)) hb
    · obtain ⟨t, ht, rfl⟩ := List.mem_map.mp hp
      exact (hts t ht).nK
    · rw [List.map_map]
      constructor
      · rintro ⟨z, hz⟩
        obtain ⟨t, ht, e⟩ := List.mem_map.mp (look_mem hz)
        cases e
        exact List.mem_map.mpr ⟨t, ht, rfl⟩
      · intro hm
        obtain ⟨t, ht, e⟩ := List.mem_map.mp hm
        subst e
        exact mem_look (List.mem_map.mpr ⟨t, ht, rfl⟩)
end PD
end

section
/-! PD45: len(set(xs)) of texts. -/
namespace PD
open PySem PySem.Spec PyProof.Rows L2

/-- the texts that are met first -/
def fm (xs : List Str) : List Str := xs.foldl (fun acc x => if acc.any (· == x) then acc else acc ++ [x]) []
theorem fm_snoc (xs : List Str) (x : Str) : fm (xs ++ [x]) = if (fm xs).any (· == x) then fm xs else fm xs ++ [x] := by
  unfold fm
  rw [List.foldl_append]
  rfl
theorem fm_le (xs : List Str) : (fm xs).length ≤ xs.length := by
  have key : ∀ (ys acc : List Str), (ys.foldl (fun acc x => if acc.any (· == x) then acc else acc ++ [x]) acc).length ≤ acc.length + ys.length := by
    intro ys
    induction ys with
    | nil => intro acc; simp
    | cons y ys ih =>
      intro acc
      rw [List.foldl_cons]
      refine Nat.le_trans (ih _) ?_
      split <;> simp <;> omega
  have := key xs []
  rw [List.length_nil, Nat.zero_add] at this
  exact this
theorem fm_mem (xs : List Str) (x : Str) : x ∈ fm xs ↔ x ∈ xs := by
  have key : ∀ (ys acc : List Str), x ∈ ys.foldl (fun acc x => if acc.any (· == x) then acc else acc ++ [x]) acc ↔ x ∈ acc ∨ x ∈ ys := by
    intro ys
    induction ys with
    | nil => intro acc; simp
    | cons y ys ih =>
      intro acc
      rw [List.foldl_cons, ih]
      split
      · rename_i h
        obtain ⟨z, hz, e⟩ := List.any_eq_true.mp h
        have e : z = y := eq_of_beq e
        subst e
        simp only [List.mem_cons]
        constructor
        · rintro (h | h)
          · exact .inl h
          · exact .inr (.inr h)
        · rintro (h | rfl | h)
          · exact .inl h
          · exact .inl hz
          · exact .inr h
      · simp only [List.mem_append, List.mem_cons, List.not_mem_nil, or_false]
        constructor
        · rintro ((h | h) | h)
          · exact .inl h
          · exact .inr (.inl h)
          · exact .inr (.inr h)
        · rintro (h | h | h)
          · exact .inl (.inl h)
          · exact .inl (.inr h)
          · exact .inr h
  rw [show fm xs = xs.foldl (fun acc x => if acc.any (· == x) then acc else acc ++ [x]) [] from rfl, key xs []]
  simp
theorem fm_nodup (xs : List Str) : (fm xs).Nodup := by
  have key : ∀ (ys acc : List Str), acc.Nodup → (ys.foldl (fun acc x => if acc.any (· == x) then acc else acc ++ [x]) acc).Nodup := by
    intro ys
    induction ys with
    | nil => intro acc h; exact h
    | cons y ys ih =>
      intro acc h
      rw [List.foldl_cons]
      refine ih _ ?_
      split
      · exact h
      · rename_i n
        refine List.nodup_append.mpr ⟨h, by simp, fun a ha b hb e => n ?_⟩
        rw [List.mem_singleton] at hb
        subst hb
        subst e
        exact List.any_eq_true.mpr ⟨a, ha, beq_self_eq_true a⟩
  exact key xs [] List.nodup_nil
/-- as many as they are just if no two are the same -/
theorem fm_len {xs : List Str} : (fm xs).length = xs.length ↔ xs.Nodup := by
  constructor
  · intro h
    have hs : ∀ (ys acc : List Str), (ys.foldl (fun acc x => if acc.any (· == x) then acc else acc ++ [x]) acc).length = acc.length + ys.length → acc.Nodup → (acc ++ ys).Nodup := by
      intro ys
      induction ys with
      | nil => intro acc _ h; simpa using h
      | cons y ys ih =>
        intro acc h n
        rw [List.foldl_cons] at h
        have le : ∀ (ys acc : List Str), (ys.foldl (fun acc x => if acc.any (· == x) then acc else acc ++ [x]) acc).length ≤ acc.length + ys.length := by
          intro ys
          induction ys with
          | nil => intro acc; simp
          | cons y ys ih =>
            intro acc
            rw [List.foldl_cons]
            refine Nat.le_trans (ih _) ?_
            split <;> simp <;> omega
        by_cases q : acc.any (· == y) = true
        · rw [if_pos q] at h
          have := le ys acc
          simp only [List.length_cons] at h
          omega
        · rw [if_neg q] at h
          have q' : y ∉ acc := fun hm => q (List.any_eq_true.mpr ⟨y, hm, beq_self_eq_true y⟩)
          have := ih (acc ++ [y]) (by simp only [List.length_cons] at h; simp only [List.length_append, List.length_singleton]; omega) (List.nodup_append.mpr ⟨n, by simp, fun a ha b hb e => q' (by rw [List.mem_singleton] at hb; subst hb; subst e; exact ha)⟩)
          simpa using this
    have := hs xs [] (by simpa [fm] using h) List.nodup_nil
    simpa using this
  · intro h
    have p : (fm xs).Perm xs := (List.perm_ext_iff_of_nodup (fm_nodup xs) h).mpr fun a => fm_mem xs a
    exact p.length_eq
/-- what is in the set behind i of them -/
abbrev inFm (xs : List Str) (i : Nat) : Str → Bool := fun k => (fm (xs.take i)).any (· == k)
section
variable {P : Program} {w : World} {A : Around} {R : Result → Shared → Prop} {it : Addr} {fp wr : List Addr} {G : Array GenState → Array GenState → Prop} {n : Nat} {V' : Nat → Value → Prop} {St : Nat → Shared → Prop}
/-- the set's loop over an iterator of texts -/
theorem texts_loop (W : WalksS P w A.in1 it fp wr G n V' St) {a : Addr} (ha : a ∉ fp) (xs : List Str) (hx : xs.length = n) (hv : ∀ i v, V' i v → ∃ t, v = .str (xs.getD i Str.empty) t) (hn : n + 1 < scanBound) :
    ∀ (d i : Nat) (s : Shared), n - i = d → i ≤ n → St i s → s.heap.SetOf (PySem.strKind P w) a (inFm xs i) (fm (xs.take i)).length →
      (∀ s', Moved (a :: wr) G s s' → s'.heap.SetOf (PySem.strKind P w) a (inFm xs n) (fm (xs.take n)).length → R (.ok (.ret .none)) s') → codeAny (model P w) A (.builtin "set.update.loop" ⟨[.ref a, .ref it], []⟩) R s := by
  have aw : a ∉ wr := fun h => ha (W.sub _ h)
  have up : ∀ b ∈ wr, b ∈ a :: wr := fun b h => List.mem_cons_of_mem _ h
  intro d
  induction d with
  | zero =>
    intro i s hd hi st so fin
    obtain rfl : i = n := by omega
    refine codeAny_builtin PyProof.Rows.F.entry_set_update_loop ?_
    rw [Around.under_plainId PyProof.Rows.F.plain_set_update_loop _] <;> show wpAny _ A.in1 (pyNext (.ref it) >>= _) _ _ s
    refine wpAny_bind (W.done s _ _ st fun s2 mv => ?_)
    obtain ⟨o, es, ep, tb, e, more⟩ := so
    exact wpAny_pure (fin s2 (mv.mono up) ⟨o, es, ep, tb, mv.heap a _ aw e, more⟩)
  | succ d ih =>
    intro i s hd hi st so fin
    have lt : i < n := by omega
    have hxi : xs.getD i Str.empty = xs[i] := by rw [List.getD_eq_getElem?_getD, List.getElem?_eq_getElem (by omega)]; rfl
    have tk1 : xs.take (i + 1) = xs.take i ++ [xs.getD i Str.empty] := by rw [hxi, List.take_add_one, List.getElem?_eq_getElem (by omega)]; rfl
    refine codeAny_builtin PyProof.Rows.F.entry_set_update_loop ?_
    rw [Around.under_plainId PyProof.Rows.F.plain_set_update_loop _] <;> show wpAny _ A.in1 (pyNext (.ref it) >>= _) _ _ s
    refine wpAny_bind (W.item i s _ _ lt st fun v s2 hvi st2 mv => ?_)
    obtain ⟨t, rfl⟩ := hv i v hvi
    have so2 : s2.heap.SetOf (PySem.strKind P w) a (inFm xs i) (fm (xs.take i)).length := let ⟨o, es, ep, tb, e, more⟩ := so; ⟨o, es, ep, tb, mv.heap a _ aw e, more⟩
    have le := fm_le (xs.take i)
    have lt2 : (xs.take i).length ≤ i := by rw [List.length_take]; omega
    show wpAny _ A.in1 (holding [Value.str (xs.getD i Str.empty) t] (setAdd a (.str (xs.getD i Str.empty) t)) >>= _) _ _ s2
    refine wpAny_bind (wpAny_holding (show wpAny _ _ (setAdd a (.str (xs.getD i Str.empty) t)) _ _ s2 from ?_))
    unfold setAdd
    refine wpAny_holding (wpAny_bind ((PySem.strKind P w).pyHash (k := xs.getD i Str.empty) (strKind_is _ _ _ _) ?_))
    refine wpAny_setAddHashed_of (knd := PySem.strKind P w) (s := { s2 with toks := s2.toks + 1 }) (strKind_is _ _ _ _) rfl so2 (by omega) fun h2 sb so3 => ?_
    have so4 : h2.SetOf (PySem.strKind P w) a (inFm xs (i + 1)) (fm (xs.take (i + 1))).length := by
      refine SetOf_congr so3 (fun k => ?_) ?_
      · show ((fm (xs.take i)).any (· == k) || decide (k = xs.getD i Str.empty)) = (fm (xs.take (i + 1))).any (· == k)
        rw [tk1, fm_snoc]
        generalize xs.getD i Str.empty = y
        split
        · rename_i q
          by_cases ek : k = y
          · rw [ek, q]; simp
          · simp [ek]
        · rw [List.any_append]
          congr 1
          by_cases ek : k = y
          · simp [ek]
          · have : (y == k) = false := beq_false_of_ne fun z => ek z.symm
            simp [ek, this]
      · show (if (fm (xs.take i)).any (· == xs.getD i Str.empty) = true then _ else _) = _
        rw [tk1, fm_snoc]
        split <;> simp
    refine wpAny_pure ⟨plainId_quiet PyProof.Rows.F.plain_set_update_loop _, ih (i + 1) _ (by omega) lt (W.frame _ s2 _ _ st2 (Nat.le_succ _) fun b hb o e => (sb.2 b fun z => ha (z ▸ hb)).trans e) so4 fun s3 mv3 so5 => ?_⟩
    exact fin s3 (Moved.trans W.gtrans ((mv.mono up).then_heap (Nat.le_succ _) fun b o hb e => (sb.2 b fun z => hb (by rw [z]; exact List.mem_cons_self)).trans e) mv3) so5
end
section
variable {P : Program} {w : World} {A : Around} {E : Value → Shared → Prop} {s : Shared}
abbrev newSet (led : Bool) : Obj := { cls := .type "set", dict := none, data := .set #[] 0 (.fresh 0 0 led) }
set_option maxHeartbeats 6400000 in
/-- set(xs) of a list of texts -/
theorem set_texts {l : Addr} {arr : Array Value} {xs : List Str} {Q : Value → Shared → Prop} (hd0 : A.handled = none) (isL : s.heap.IsList l arr) (ha : PyProof.Rows.StrsAre arr.toList xs) (hn : xs.length + 1 < scanBound)
    (k : ∀ (h2 : Heap) (tk : Nat), h2.SetOf (PySem.strKind P w) s.heap.objs.size (inFm xs xs.length) (fm xs).length → (∀ b o, b < s.heap.objs.size → s.heap.get? b = some o → h2.get? b = some o) → Q (.ref s.heap.objs.size) { s with heap := h2, toks := tk }) :
    wpAny (model P w) A (call (.type "set") [.ref l]) Q E s := by
  have szx : xs.length = arr.size := by rw [← StrsAre.len_eq ha, Array.length_toList]
  have ⟨c, tl, hmro⟩ := PySem.F.called_set.mro
  have made_ := PySem.F.called_set.made
  have sub_ := PySem.F.called_set.sub
  have nt_ := PySem.F.called_set.notType
  have cc_ := PySem.F.called_set.canCreate
  have tc_ := PySem.F.typeCall_set_1 (.ref l)
  refine wpAny_call (codeAny_of_tree (show wpAny _ _ (callAny (.type "set") _) _ _ _ from ?_))
  refine wpAny_pure ⟨Code.quiet_builtin _ (by decide +kernel), codeAny_builtin PySem.F.entry_type_call ?_⟩ <;> rw [Around.under_plain (weight_type_call_type "set" [.ref l] []) rfl]
  (repeat any_goals first | assumption | wp_step)
  refine codeAny_mono (code_set_new_1 (.ref l) (E := E) (Q₁ := fun u s1 => ∃ led : Bool, u = .ref s.heap.objs.size ∧ s1 = { s with heap := s.heap.push (newSet led) }) fun led => ⟨led, rfl, rfl⟩) fun r s1 hr => ?_
  match r, hr with
  | .error e, hr => exact hr
  | .ok .next, hr => exact hr.elim
  | .ok .brk, hr => exact hr.elim
  | .ok .cont, hr => exact hr.elim
  | .ok (.ret u), hr =>
    obtain ⟨led, rfl, rfl⟩ := hr
    have at0 : (s.heap.push (newSet led)).get? s.heap.objs.size = some (newSet led) := Heap.get?_push_size _ rfl
    have ty0 : Shared.TypeIs { s with heap := s.heap.push (newSet led) } (.ref s.heap.objs.size) "set" := ⟨_, at0, rfl⟩
    have il_ := PySem.F.called_set.init.lookup
    have ib_ := PySem.F.called_set.init.bind (.ref s.heap.objs.size)
    (repeat any_goals first | assumption | wp_step)
    refine codeAny_mono (codeAny_call_builtin (R := wants (fun r2 s2 => r2 = .none ∧ ∃ h2 tk, s2 = { s with heap := h2, toks := tk } ∧ h2.SetOf (PySem.strKind P w) s.heap.objs.size (inFm xs xs.length) (fm xs).length ∧ ∀ b o, b < s.heap.objs.size → s.heap.get? b = some o → h2.get? b = some o) E)
      PySem.F.called_set.init.plain PySem.F.entry_set_init (check_set_init_1 ty0 ?_)) fun r2 s2 hr2 => ?_
    · have ⟨⟨ocls, odict, odata, osl⟩, e1, e2, nl, e3⟩ := isL
      simp only at e2 e3
      subst e2 e3
      have e4 : (s.heap.push (newSet led)).get? l = some ⟨.type "list", odict, .seq arr nl, osl⟩ := Heap.get?_push_of_some _ e1
      have isL2 : (s.heap.push (newSet led)).IsList l arr := ⟨_, e4, rfl, nl, rfl⟩
      have s1_ := PySem.F.sub_list_set
      have s2_ := PySem.F.sub_list_frozenset
      have s3_ : (Value.type "list" == Value.type "dict") = false := by decide
      unfold Builtin.«set.__init__» noKeywords Builtin.Frozenset.updateFrom
      generalize hpi : pyIter = pI
      wp_walk
      subst hpi
      have ll : l < s.heap.objs.size := Heap.lt_size e1
      have nI : l ≠ (s.heap.push (newSet led)).objs.size := by rw [Heap.size_push]; exact Nat.ne_of_lt (Nat.lt_succ_of_lt ll)
      have nS : s.heap.objs.size ∉ [(s.heap.push (newSet led)).objs.size, l] := by
        rw [Heap.size_push]
        simp only [List.mem_cons, List.not_mem_nil, or_false, not_or]
        exact ⟨Nat.ne_of_lt (Nat.lt_succ_self _), Nat.ne_of_gt ll⟩
      refine wpAny_pyIter_list isL2 ?_
      refine wpAny_bind (wpAny_runValue ?_)
      refine texts_loop ((Walks.list (show A.in1.in1.in1.handled = none by simp [hd0]) _ l nI arr).toS) nS xs szx (fun i v hv => SS.strs_at ha i v (by rw [Array.getElem?_toList]; exact hv)) (by omega) (arr.size - 0) 0 _ (by omega) (Nat.zero_le _)
        ⟨⟨_, Heap.get?_push_size _ rfl, rfl, rfl⟩, isL2.push _⟩ ?_ ?_
      · have e5 : ((s.heap.push (newSet led)).push { cls := .type "list_iterator", data := .fields #[.ref l, .int 0 0] }).get? s.heap.objs.size = some { cls := .type "set", dict := none, data := .set #[] 0 (.fresh 0 0 led) } := Heap.get?_push_of_some _ at0
        exact SetOf_congr ((PyProof.Rows.setObjOf_fresh (knd := PySem.strKind P w) led).setOf e5 (by unfold scanBound; omega)) (fun _ => rfl) rfl
      · intro s3 mv so
        rw [← szx, List.take_length] at so
        obtain ⟨h3, g3, d3, t3, os3⟩ := s3
        obtain rfl : g3 = s.gens := mv.gens
        obtain rfl : d3 = s.drawn := mv.drawn
        obtain rfl : os3 = s.os := mv.os
        refine wpAny_pure (wpAny_pure ⟨rfl, h3, t3, rfl, so, fun b o hb e => ?_⟩)
        refine mv.heap b o ?_ (Heap.get?_push_of_some _ (Heap.get?_push_of_some _ e))
        rw [Heap.size_push]
        simp only [List.mem_cons, List.not_mem_nil, or_false, not_or]
        exact ⟨Nat.ne_of_lt hb, Nat.ne_of_lt (Nat.lt_succ_of_lt hb)⟩
    · match r2, hr2 with
      | .error e, hr2 => exact hr2
      | .ok .next, hr2 => exact hr2.elim
      | .ok .brk, hr2 => exact hr2.elim
      | .ok .cont, hr2 => exact hr2.elim
      | .ok (.ret r3), hr2 =>
        obtain ⟨rfl, h2, tk, rfl, so, kp⟩ := hr2
        (repeat any_goals first | assumption | wp_step)
        exact k _ _ so kp
end
section
variable {X : Cx}
def tLenSetT (te : TED) : TED := fun σ S Q => te σ S fun x S1 => match asLst S1 x with
  | some ds => (match strsOf ds with
    | some xs => xs.length ≤ 4000 ∧ Q (.int ((fm xs).length : Nat)) S1
    | none => False)
  | none => False
theorem de_lenSetT {a : Expr} {ta : TED} {p p2 q pos : Pos} (hm : X.mg "len" = none) (hm2 : X.mg "set" = none) (ha : DE X a ta) (hg : Gl X "len" := by rfl) (hg2 : Gl X "set" := by rfl) (hc : X.calm = true := by rfl)
    (na : starEach [a] X.env = (false, eval a X.env) :: starEach [] X.env := by rfl) : DE X (.Call (.Name "len" p) [.Call (.Name "set" p2) [a] [] q] [] pos) (tLenSetT ta) := by
  refine ⟨fun pins s σ H Q I ⟨G, σd, S, Qd, rs, rh, t, pp⟩ => ?_⟩
  have hA := ha.run pins s σ H (fun v H1 => ∃ S1 d, FL S H S1 H1 ∧ RH X.K G S1 H1 ∧ RD X.K G S1 H1 d v ∧ (match asLst S1 d with | some ds => (match strsOf ds with | some xs => xs.length ≤ 4000 ∧ Qd (.int ((fm xs).length : Nat)) S1 | none => False) | none => False)) I ⟨G, σd, S, _, rs, rh, t, fun S1 d v H1 f1 rh1 q1 t1 => ⟨S1, d, f1, rh1, q1, t1⟩⟩
  refine Call_ (ld_blt I hg hm boot_len (PyProof.Rows.callWith_builtin1 (PyProof.Rows.args_cons (Call_ (ld_blt I hg2 hm2 boot_set ?_)) rfl) rfl rfl))
  refine PyProof.Rows.callWith_type1 (PyProof.Rows.args_cons (thn hA fun v s1 ⟨x, H1, I1, r1, S1, d, f1, rh1, q1, t1⟩ => PyProof.Rows.args_nil ?_) na) na rfl
  split at t1
  · rename_i ds e
    split at t1
    · rename_i xs e2
      obtain ⟨b, ws, rfl, sq, r⟩ := asLst_ok rh1 e q1
      rw [strsOf_eq e2] at r
      rw [rds_strs r] at sq
      cases r1
      obtain ⟨its, r2, pl, hz⟩ := I1.list sq
      refine set_texts (I1.ok.hd hc) pl.isList (xs := xs) (by simpa using L2.strsAre_of r2) (by unfold scanBound; omega) fun h2 tk so kp => PyProof.Rows.args_nil ?_
      obtain ⟨o, es, ep, tb, ho, hex, hd, _, _, _, hf, hn⟩ := so
      have I2 : Inv X pins σ H1 { s1 with heap := h2, toks := tk } := I1.kept fun b o e => kp b o (Heap.lt_size e) e
      have := fm_le xs
      exact call_len_set ho hex hd hf (by rw [hn] <;> omega) ⟨.int (fm xs).length, H1, I2.tok _, ⟨_, by rw [hn]⟩, (pp.fl f1).here rh1 (.int _) t1.2⟩
    · exact t1.elim
  · exact t1.elim
/-- of whole numbers or of texts -/
def tLenSetX (te : TED) : TED := fun σ S Q => tLenSetD te σ S Q ∨ tLenSetT te σ S Q
theorem de_lenSetX {a : Expr} {ta : TED} {p p2 q pos : Pos} (hm : X.mg "len" = none) (hm2 : X.mg "set" = none) (ha : DE X a ta) (hg : Gl X "len" := by rfl) (hg2 : Gl X "set" := by rfl) (hc : X.calm = true := by rfl)
    (na : starEach [a] X.env = (false, eval a X.env) :: starEach [] X.env := by rfl) : DE X (.Call (.Name "len" p) [.Call (.Name "set" p2) [a] [] q] [] pos) (tLenSetX ta) :=
  ⟨fun pins s σ H Q I ⟨G, σd, S, Qd, rs, rh, t, pp⟩ => t.elim (fun t => (de_lenSet hm hm2 ha hg hg2 hc na).run pins s σ H Q I ⟨G, σd, S, Qd, rs, rh, t, pp⟩) fun t => (de_lenSetT hm hm2 ha hg hg2 hc na).run pins s σ H Q I ⟨G, σd, S, Qd, rs, rh, t, pp⟩⟩
end
end PD
end

section
/-! PD46: == where an empty dict is on a side. -/
namespace PD
open PySem PySem.Spec PyProof.Rows L2
section
variable {prog : Program} {w : World} {A : Around} {E : Value → Shared → Prop} {s : Shared}
theorem dict_declines {a : Addr} {x : Value} {T : String} {Q : Value → Shared → Prop} (ta : s.TypeIs (.ref a) "dict") (tx : s.TypeIs x T) (hs : isSubtype (.type T) (.type "dict") = pure false) (q : Q .notImplemented s) :
    wpAny (model prog w) A (call (.builtin "dict.__eq__") [.ref a, x]) Q E s := by
  refine wpAny_call_entry PySem.F.slot_dict_eq ta PySem.F.entry_dict_eq ?_ (PySem.F.args_dict_eq_2 _ _)
  show wpAny _ _ (Builtin.Dict.dictSlotArgs "__eq__" ⟨[.ref a, x], []⟩ >>= _) _ _ s
  refine wpAny_bind (show wpAny _ _ (Builtin.Dict.dictSlotArgs "__eq__" ⟨[.ref a, x], []⟩) _ _ s from ?_)
  unfold Builtin.Dict.dictSlotArgs
  refine wpAny_bind (wpAny_notOrdered_dict ta (show wpAny _ _ (pure (Value.ref a, x)) _ _ s from wpAny_pure (wpAny_bind (wpAny_isInstance (T := T) (b := false) tx hs ?_))))
  simp only [Bool.not_false, if_true]
  exact wpAny_bind (wpAny_rule (wpAny_pure ⟨_, rfl, q⟩))
abbrev dObj (es : Array DictEntry) (ep : Nat) (dd : Option Addr) (sl : Array (Option Value)) : Obj := { cls := .type "dict", dict := dd, data := .dict es ep, slots := sl }
theorem bool_declines (b : Bool) (l : Addr) (es : Array DictEntry) (ep : Nat) (dd : Option Addr) (sl : Array (Option Value)) :
    Meets (Builtin.«int.__eq__» ⟨[.bool b, .ref l], []⟩) (fun _ R s => s.heap.get? l = some (dObj es ep dd sl) ∧ R (.ok (.ret .notImplemented)) s) :=
  .of_wp fun prog w A R s ⟨hl, h⟩ => by obtain ⟨hp, g, d, tk, os⟩ := s; wp_walk using MeetsSeq.AutoSeq1.wpAny_loadPart' hl, wpAny_load hl; exact ⟨_, rfl, h⟩
theorem int_declines (l : Addr) (es : Array DictEntry) (ep : Nat) (dd : Option Addr) (sl : Array (Option Value)) (b : Int) (u : Tok) :
    Meets (Builtin.«int.__eq__» ⟨[.int b u, .ref l], []⟩) (fun _ R s => s.heap.get? l = some (dObj es ep dd sl) ∧ R (.ok (.ret .notImplemented)) s) :=
  .of_wp fun prog w A R s ⟨hl, h⟩ => by obtain ⟨hp, g, d, tk, os⟩ := s; wp_walk using MeetsSeq.AutoSeq1.wpAny_loadPart' hl, wpAny_load hl; exact ⟨_, rfl, h⟩
theorem str_declines (l : Addr) (es : Array DictEntry) (ep : Nat) (dd : Option Addr) (sl : Array (Option Value)) (b : Str) (u : Tok) :
    Meets (Builtin.«str.__eq__» ⟨[.str b u, .ref l], []⟩) (fun _ R s => s.heap.get? l = some (dObj es ep dd sl) ∧ R (.ok (.ret .notImplemented)) s) :=
  .of_wp fun prog w A R s ⟨hl, h⟩ => by obtain ⟨hp, g, d, tk, os⟩ := s; wp_walk using MeetsSeq.AutoSeq1.wpAny_loadPart' hl, wpAny_load hl; exact ⟨_, rfl, h⟩
theorem list_declines (l : Addr) (es : Array DictEntry) (ep : Nat) (dd : Option Addr) (sl : Array (Option Value)) (m : Addr) (items : Array Value) (n : Nat) (dd2 : Option Addr) (sl2 : Array (Option Value)) :
    Meets (Builtin.«list.__eq__» ⟨[.ref m, .ref l], []⟩) (fun _ R s => (s.heap.get? l = some (dObj es ep dd sl) ∧ s.heap.get? m = some { cls := .type "list", dict := dd2, data := .seq items n, slots := sl2 }) ∧ R (.ok (.ret .notImplemented)) s) :=
  .of_wp fun prog w A R s ⟨⟨hl, hm⟩, h⟩ => by obtain ⟨hp, g, d, tk, os⟩ := s; have f1 := PySem.F.sub_dict_list; wp_walk using MeetsSeq.AutoSeq1.wpAny_loadPart' hl, MeetsSeq.AutoSeq1.wpAny_loadPart' hm; exact ⟨_, rfl, h⟩
theorem tuple_declines (l : Addr) (es : Array DictEntry) (ep : Nat) (dd : Option Addr) (sl : Array (Option Value)) (m : Addr) (items : Array Value) (n : Nat) (dd2 : Option Addr) (sl2 : Array (Option Value)) :
    Meets (Builtin.«tuple.__eq__» ⟨[.ref m, .ref l], []⟩) (fun _ R s => (s.heap.get? l = some (dObj es ep dd sl) ∧ s.heap.get? m = some { cls := .type "tuple", dict := dd2, data := .seq items n, slots := sl2 }) ∧ R (.ok (.ret .notImplemented)) s) :=
  .of_wp fun prog w A R s ⟨⟨hl, hm⟩, h⟩ => by obtain ⟨hp, g, d, tk, os⟩ := s; have f1 := PySem.F.sub_dict_tuple; wp_walk using MeetsSeq.AutoSeq1.wpAny_loadPart' hl, MeetsSeq.AutoSeq1.wpAny_loadPart' hm; exact ⟨_, rfl, h⟩
theorem same_other {x y : Addr} {ox oy : Obj} {R : Bool → Shared → Prop} (hxy : x ≠ y) (hx : s.heap.get? x = some ox) (hy : s.heap.get? y = some oy) (n : ox.cls ≠ .type "tuple" ∨ oy.cls ≠ .type "tuple") (h : R false s) : wpAny (model prog w) A (isSame (.ref x) (.ref y)) R E s := by
  show wpAny (model prog w) A (if (x == y) = true then pure true else _) R E s
  rw [if_neg (by simpa using hxy)]
  refine wpAny_bind (wpAny_load hx (wpAny_bind (wpAny_load hy ?_)))
  split
  · rename_i h1 h2 _ _
    exact n.elim (fun z => absurd h1 z) fun z => absurd h2 z
  · exact wpAny_pure h
/-- an empty dict beside a value of another kind, or beside another empty dict -/
theorem rc_dict {a : Addr} {es : Array DictEntry} {ep : Nat} {dd : Option Addr} {sl : Array (Option Value)} (ho : s.heap.get? a = some (dObj es ep dd sl)) (hu : A.units < cLine) :
    (∀ Q : Value → Shared → Prop, Q (.bool false) s → wpAny (model prog w) A (richCompare .Eq (.ref a) .none) Q E s ∧ wpAny (model prog w) A (richCompare .Eq .none (.ref a)) Q E s) ∧
    (∀ (b : Bool) (Q : Value → Shared → Prop), Q (.bool false) s → wpAny (model prog w) A (richCompare .Eq (.ref a) (.bool b)) Q E s ∧ wpAny (model prog w) A (richCompare .Eq (.bool b) (.ref a)) Q E s) ∧
    (∀ (b : Int) (u : Tok) (Q : Value → Shared → Prop), Q (.bool false) s → wpAny (model prog w) A (richCompare .Eq (.ref a) (.int b u)) Q E s ∧ wpAny (model prog w) A (richCompare .Eq (.int b u) (.ref a)) Q E s) ∧
    (∀ (b : Str) (u : Tok) (Q : Value → Shared → Prop), Q (.bool false) s → wpAny (model prog w) A (richCompare .Eq (.ref a) (.str b u)) Q E s ∧ wpAny (model prog w) A (richCompare .Eq (.str b u) (.ref a)) Q E s) ∧
    (∀ (l : Addr) (items : Array Value) (Q : Value → Shared → Prop), s.heap.IsList l items → Q (.bool false) s → wpAny (model prog w) A (richCompare .Eq (.ref a) (.ref l)) Q E s ∧ wpAny (model prog w) A (richCompare .Eq (.ref l) (.ref a)) Q E s) ∧
    (∀ (l : Addr) (items : Array Value) (Q : Value → Shared → Prop), s.heap.IsTuple l items → Q (.bool false) s → wpAny (model prog w) A (richCompare .Eq (.ref a) (.ref l)) Q E s ∧ wpAny (model prog w) A (richCompare .Eq (.ref l) (.ref a)) Q E s) := by
  have ta : s.TypeIs (.ref a) "dict" := ⟨_, ho, rfl⟩
  refine ⟨fun Q q => ⟨?_, ?_⟩, fun b Q q => ⟨?_, ?_⟩, fun b u Q q => ⟨?_, ?_⟩, fun b u Q q => ⟨?_, ?_⟩, fun l items Q hl q => ?_, fun l items Q hl q => ?_⟩
  · exact SeqAt.rc_eq_decline_or (k := false) ta rfl (by decide) PySem.F.sub_NoneType_dict PySem.F.slot_dict_eq F.slot_NoneType_eq_refl (fun _ hq => dict_declines ta (T := "NoneType") rfl PySem.F.sub_NoneType_dict hq)
      (fun _ hq => call_gives F.slot_NoneType_eq_refl rfl F.entry_NoneType_eq (F.args_NoneType_eq_2 _ _) (SeqAt.NoneType___eq___none_ref_0 a) hq) (fun _ hq => wpAny_of_eq (rfl : isSame (.ref a) .none = pure false) hq) (.inr hu) q
  · exact SeqAt.rc_eq_decline_or (k := false) rfl ta (by decide) PySem.F.sub_dict_NoneType F.slot_NoneType_eq PySem.F.slot_dict_eq_refl (fun _ hq => call_gives F.slot_NoneType_eq rfl F.entry_NoneType_eq (F.args_NoneType_eq_2 _ _) (SeqAt.NoneType___eq___none_ref_0 a) hq)
      (fun _ hq => dict_declines ta (T := "NoneType") rfl PySem.F.sub_NoneType_dict hq) (fun _ hq => wpAny_of_eq (rfl : isSame .none (.ref a) = pure false) hq) (.inr hu) q
  · exact SeqAt.rc_eq_decline_or (k := false) ta rfl (by decide) PySem.F.sub_bool_dict PySem.F.slot_dict_eq PySem.F.slot_bool_eq_refl (fun _ hq => dict_declines ta (T := "bool") rfl PySem.F.sub_bool_dict hq)
      (fun _ hq => call_meets PySem.F.slot_bool_eq_refl rfl PySem.F.entry_int_eq (PySem.F.args_int_eq_2 _ _) (bool_declines b a es ep dd sl) ⟨ho, hq⟩) (fun _ hq => wpAny_of_eq (rfl : isSame (.ref a) (.bool b) = pure false) hq) (.inr hu) q
  · exact SeqAt.rc_eq_decline_or (k := false) rfl ta (by decide) PySem.F.sub_dict_bool PySem.F.slot_bool_eq PySem.F.slot_dict_eq_refl (fun _ hq => call_meets PySem.F.slot_bool_eq rfl PySem.F.entry_int_eq (PySem.F.args_int_eq_2 _ _) (bool_declines b a es ep dd sl) ⟨ho, hq⟩)
      (fun _ hq => dict_declines ta (T := "bool") rfl PySem.F.sub_bool_dict hq) (fun _ hq => wpAny_of_eq (rfl : isSame (.bool b) (.ref a) = pure false) hq) (.inr hu) q
  · exact SeqAt.rc_eq_decline_or (k := false) ta (typeIs_int s b u) (by decide) PySem.F.sub_int_dict PySem.F.slot_dict_eq PySem.F.slot_int_eq_refl (fun _ hq => dict_declines ta (T := "int") (typeIs_int s b u) PySem.F.sub_int_dict hq)
      (fun _ hq => call_meets PySem.F.slot_int_eq_refl (typeIs_int s b u) PySem.F.entry_int_eq (PySem.F.args_int_eq_2 _ _) (int_declines a es ep dd sl b u) ⟨ho, hq⟩) (fun _ hq => wpAny_of_eq (rfl : isSame (.ref a) (.int b u) = pure false) hq) (.inr hu) q
  · exact SeqAt.rc_eq_decline_or (k := false) (typeIs_int s b u) ta (by decide) PySem.F.sub_dict_int PySem.F.slot_int_eq PySem.F.slot_dict_eq_refl (fun _ hq => call_meets PySem.F.slot_int_eq (typeIs_int s b u) PySem.F.entry_int_eq (PySem.F.args_int_eq_2 _ _) (int_declines a es ep dd sl b u) ⟨ho, hq⟩)
      (fun _ hq => dict_declines ta (T := "int") (typeIs_int s b u) PySem.F.sub_int_dict hq) (fun _ hq => wpAny_of_eq (rfl : isSame (.int b u) (.ref a) = pure false) hq) (.inr hu) q
  · exact SeqAt.rc_eq_decline_or (k := false) ta (typeIs_str s b u) (by decide) PySem.F.sub_str_dict PySem.F.slot_dict_eq PySem.F.slot_str_eq_refl (fun _ hq => dict_declines ta (T := "str") (typeIs_str s b u) PySem.F.sub_str_dict hq)
      (fun _ hq => call_meets PySem.F.slot_str_eq_refl (typeIs_str s b u) PySem.F.entry_str_eq (PySem.F.args_str_eq_2 _ _) (str_declines a es ep dd sl b u) ⟨ho, hq⟩) (fun _ hq => wpAny_of_eq (rfl : isSame (.ref a) (.str b u) = pure false) hq) (.inr hu) q
  · exact SeqAt.rc_eq_decline_or (k := false) (typeIs_str s b u) ta (by decide) PySem.F.sub_dict_str PySem.F.slot_str_eq PySem.F.slot_dict_eq_refl (fun _ hq => call_meets PySem.F.slot_str_eq (typeIs_str s b u) PySem.F.entry_str_eq (PySem.F.args_str_eq_2 _ _) (str_declines a es ep dd sl b u) ⟨ho, hq⟩)
      (fun _ hq => dict_declines ta (T := "str") (typeIs_str s b u) PySem.F.sub_str_dict hq) (fun _ hq => wpAny_of_eq (rfl : isSame (.str b u) (.ref a) = pure false) hq) (.inr hu) q
  · obtain ⟨⟨cls, d2, data, sl2⟩, h1, h2, n, h3⟩ := hl
    simp only at h2 h3
    subst h2 h3
    have tl : s.TypeIs (.ref l) "list" := ⟨_, h1, rfl⟩
    have ne : a ≠ l := fun e => by rw [e, h1] at ho; exact absurd (congrArg Obj.cls (Option.some.inj ho)) (show ¬ (Value.type "list" = Value.type "dict") by decide)
    refine ⟨SeqAt.rc_eq_decline_or (k := false) ta tl (by decide) PySem.F.sub_list_dict PySem.F.slot_dict_eq PySem.F.slot_list_eq_refl (fun _ hq => dict_declines ta tl PySem.F.sub_list_dict hq) (fun _ hq => ?_) (fun _ hq => same_other ne ho h1 (.inl (show (Value.type "dict") ≠ Value.type "tuple" by decide)) hq) (.inr hu) q,
      SeqAt.rc_eq_decline_or (k := false) tl ta (by decide) PySem.F.sub_dict_list PySem.F.slot_list_eq PySem.F.slot_dict_eq_refl (fun _ hq => ?_) (fun _ hq => dict_declines ta tl PySem.F.sub_list_dict hq) (fun _ hq => same_other ne.symm h1 ho (.inr (show (Value.type "dict") ≠ Value.type "tuple" by decide)) hq) (.inr hu) q⟩
    · exact call_meets PySem.F.slot_list_eq_refl tl PySem.F.entry_list_eq (PySem.F.args_list_eq_2 _ _) (list_declines a es ep dd sl l items n d2 sl2) ⟨⟨ho, h1⟩, hq⟩
    · exact call_meets PySem.F.slot_list_eq tl PySem.F.entry_list_eq (PySem.F.args_list_eq_2 _ _) (list_declines a es ep dd sl l items n d2 sl2) ⟨⟨ho, h1⟩, hq⟩
  · obtain ⟨⟨cls, d2, data, sl2⟩, h1, h2, n, h3⟩ := hl
    simp only at h2 h3
    subst h2 h3
    have tl : s.TypeIs (.ref l) "tuple" := ⟨_, h1, rfl⟩
    have ne : a ≠ l := fun e => by rw [e, h1] at ho; exact absurd (congrArg Obj.cls (Option.some.inj ho)) (show ¬ (Value.type "tuple" = Value.type "dict") by decide)
    refine ⟨SeqAt.rc_eq_decline_or (k := false) ta tl (by decide) PySem.F.sub_tuple_dict PySem.F.slot_dict_eq PySem.F.slot_tuple_eq_refl (fun _ hq => dict_declines ta tl PySem.F.sub_tuple_dict hq) (fun _ hq => ?_) (fun _ hq => same_other ne ho h1 (.inl (show (Value.type "dict") ≠ Value.type "tuple" by decide)) hq) (.inr hu) q,
      SeqAt.rc_eq_decline_or (k := false) tl ta (by decide) PySem.F.sub_dict_tuple PySem.F.slot_tuple_eq PySem.F.slot_dict_eq_refl (fun _ hq => ?_) (fun _ hq => dict_declines ta tl PySem.F.sub_tuple_dict hq) (fun _ hq => same_other ne.symm h1 ho (.inr (show (Value.type "dict") ≠ Value.type "tuple" by decide)) hq) (.inr hu) q⟩
    · exact call_meets PySem.F.slot_tuple_eq_refl tl PySem.F.entry_tuple_eq (PySem.F.args_tuple_eq_2 _ _) (tuple_declines a es ep dd sl l items n d2 sl2) ⟨⟨ho, h1⟩, hq⟩
    · exact call_meets PySem.F.slot_tuple_eq tl PySem.F.entry_tuple_eq (PySem.F.args_tuple_eq_2 _ _) (tuple_declines a es ep dd sl l items n d2 sl2) ⟨⟨ho, h1⟩, hq⟩
end
/-- an empty dict on a side, and none or a plain value on the other one -/
def dkn : D → D → Option Bool
  | .dic [], .dic [] => some true
  | .dic [], .non => some false
  | .dic [], .bl _ => some false
  | .dic [], .int _ => some false
  | .dic [], .str _ => some false
  | .dic [], .tup _ => some false
  | .dic [], .lst _ => some false
  | .non, .dic [] => some false
  | .bl _, .dic [] => some false
  | .int _, .dic [] => some false
  | .str _, .dic [] => some false
  | .tup _, .dic [] => some false
  | .lst _, .dic [] => some false
  | _, _ => none
def rEqX : R2D := fun x y S Q => rEqD x y S Q ∨ ∃ b, dkn x y = some b ∧ Q (.bl b) S
section
variable {X : Cx} {a b : Expr} {ta tb : TED} {pos : Pos}
theorem dict_obj {K : PySem.W.Frag} {G : Addr → Prop} {S : HD} {pins : List (Addr × Obj)} {σ : L2.St} {H : Hp} {s : Shared} {p : Addr} {kvs : List (Key × V)} (I : Inv X pins σ H s) (h : FzD G S H p kvs) :
    ∃ vs es ep dd sl, s.heap.DictOf (mixKind X.prog X.w) p vs ∧ vs.length = kvs.length ∧ s.heap.get? p = some (dObj es ep dd sl) ∧ (p == sysModules) = false := by
  obtain ⟨_, r⟩ := h
  have key : ObjOk X.prog X.w H s.heap p (.dK kvs) := by
    rcases r with e | ⟨o, e⟩
    · exact I.hok p _ e
    · exact (I.hok p _ e).2
  obtain ⟨_, hm, vs, kv, d⟩ := key
  have d0 := d
  obtain ⟨o, es, ep, ho, hx, hd, _⟩ := d0
  obtain ⟨c, dd, dt, sl⟩ := o
  have hc : c = .type "dict" := by
    obtain ⟨T, ho', hT⟩ := d.typeIs
    rw [ho] at ho'
    cases ho'
    exact hT
  simp only at hd
  subst hc hd
  exact ⟨vs, es, ep, dd, sl, d, kv.length.symm, ho, hm⟩
theorem op_eqX {k : Nat} (hr : RoomG k X.A) (hB : SysB X.base) : OpRD X (compareOp .Eq) rEqX := fun pins s σ H x y v u d e G S Qd Q I rx ry q1 q2 rh t p => by
  rcases t with t | ⟨b, hb, t⟩
  · exact op_eqRD hr hB pins s σ H x y v u d e G S Qd Q I rx ry q1 q2 rh t p
  have hu0 : X.A.units < cLine := by have := hr.un64; omega
  have fin : ∀ b, Qd (.bl b) S → EP X pins σ Q (.bool b) s := fun b t => ⟨.bl b, H, I, rfl, p.here rh (.bl b) t⟩
  show wpAny _ _ (richCompare .Eq v u) _ _ s
  unfold dkn at hb
  split at hb
  · cases hb
    cases q1 with
    | dic h1 r1 =>
      cases q2 with
      | dic h2 r2 =>
        cases r1; cases r2; cases rx; cases ry
        obtain ⟨vs, es, ep, dd, sl, d1, l1, o1, m1⟩ := dict_obj (K := X.K) I h1
        obtain ⟨vs2, es2, ep2, dd2, sl2, d2, l2, o2, m2⟩ := dict_obj (K := X.K) I h2
        have z1 : vs = [] := List.length_eq_zero_iff.mp l1
        have z2 : vs2 = [] := List.length_eq_zero_iff.mp l2
        subst z1 z2
        exact PySem.W.keq_eqIn m1 m2 d1 d2 hu0 (fun _ => .nil) (fin true t)
  all_goals first | (cases hb; done) | skip
  all_goals (cases hb)
  · cases q1 with
    | dic h1 r1 => cases r1; cases rx; cases q2; cases ry; obtain ⟨_, _, _, _, _, _, _, o1, _⟩ := dict_obj (K := X.K) I h1; exact ((rc_dict o1 hu0).1 _ (fin false t)).1
  · cases q1 with
    | dic h1 r1 => cases r1; cases rx; cases q2; cases ry; obtain ⟨_, _, _, _, _, _, _, o1, _⟩ := dict_obj (K := X.K) I h1; exact ((rc_dict o1 hu0).2.1 _ _ (fin false t)).1
  · cases q1 with
    | dic h1 r1 => cases r1; cases rx; cases q2; obtain ⟨_, rfl⟩ := ry; obtain ⟨_, _, _, _, _, _, _, o1, _⟩ := dict_obj (K := X.K) I h1; exact ((rc_dict o1 hu0).2.2.1 _ _ _ (fin false t)).1
  · cases q1 with
    | dic h1 r1 => cases r1; cases rx; cases q2; obtain ⟨_, rfl⟩ := ry; obtain ⟨_, _, _, _, _, _, _, o1, _⟩ := dict_obj (K := X.K) I h1; exact ((rc_dict o1 hu0).2.2.2.1 _ _ _ (fin false t)).1
  · cases q1 with
    | dic h1 r1 => cases q2 with
      | tup h2 r2 =>
        cases r1; cases rx; cases ry; obtain ⟨_, _, _, _, _, _, _, o1, _⟩ := dict_obj (K := X.K) I h1
        obtain ⟨its, rv, pl, _⟩ := I.tuple h2.sq
        exact ((rc_dict o1 hu0).2.2.2.2.2 _ _ _ pl (fin false t)).1
  · cases q1 with
    | dic h1 r1 => cases q2 with
      | lst h2 r2 =>
        cases r1; cases rx; cases ry; obtain ⟨_, _, _, _, _, _, _, o1, _⟩ := dict_obj (K := X.K) I h1
        obtain ⟨its, rv, pl, _⟩ := I.list h2.sq
        exact ((rc_dict o1 hu0).2.2.2.2.1 _ _ _ pl.isList (fin false t)).1
  · cases q2 with
    | dic h1 r1 => cases r1; cases ry; cases q1; cases rx; obtain ⟨_, _, _, _, _, _, _, o1, _⟩ := dict_obj (K := X.K) I h1; exact ((rc_dict o1 hu0).1 _ (fin false t)).2
  · cases q2 with
    | dic h1 r1 => cases r1; cases ry; cases q1; cases rx; obtain ⟨_, _, _, _, _, _, _, o1, _⟩ := dict_obj (K := X.K) I h1; exact ((rc_dict o1 hu0).2.1 _ _ (fin false t)).2
  · cases q2 with
    | dic h1 r1 => cases r1; cases ry; cases q1; obtain ⟨_, rfl⟩ := rx; obtain ⟨_, _, _, _, _, _, _, o1, _⟩ := dict_obj (K := X.K) I h1; exact ((rc_dict o1 hu0).2.2.1 _ _ _ (fin false t)).2
  · cases q2 with
    | dic h1 r1 => cases r1; cases ry; cases q1; obtain ⟨_, rfl⟩ := rx; obtain ⟨_, _, _, _, _, _, _, o1, _⟩ := dict_obj (K := X.K) I h1; exact ((rc_dict o1 hu0).2.2.2.1 _ _ _ (fin false t)).2
  · cases q2 with
    | dic h1 r1 => cases q1 with
      | tup h2 r2 =>
        cases r1; cases rx; cases ry; obtain ⟨_, _, _, _, _, _, _, o1, _⟩ := dict_obj (K := X.K) I h1
        obtain ⟨its, rv, pl, _⟩ := I.tuple h2.sq
        exact ((rc_dict o1 hu0).2.2.2.2.2 _ _ _ pl (fin false t)).2
  · cases q2 with
    | dic h1 r1 => cases q1 with
      | lst h2 r2 =>
        cases r1; cases rx; cases ry; obtain ⟨_, _, _, _, _, _, _, o1, _⟩ := dict_obj (K := X.K) I h1
        obtain ⟨its, rv, pl, _⟩ := I.list h2.sq
        exact ((rc_dict o1 hu0).2.2.2.2.1 _ _ _ pl.isList (fin false t)).2
theorem de_eqX {k : Nat} (hr : RoomG k X.A) (hB : SysB X.base) (ha : DE X a ta) (hb : DE X b tb) : DE X (.Compare a [.Eq] [b] pos) (tBin rEqX ta tb) := de_cmp (op_eqX hr hB).toR lift2 ha hb (nomark _)
theorem dt_eqX {k : Nat} (hr : RoomG k X.A) (hB : SysB X.base) (ha : DE X a ta) (hb : DE X b tb) : DT X (.Compare a [.Eq] [b] pos) (tTst (tBin rEqX ta tb)) := dt_cmp (op_eqX hr hB).toR lift2 ha hb (nomark _)
end
end PD
end

section
/-! PD47: a sign in a text. -/
namespace PD
open PySem PySem.Spec PyProof.Rows L2
/-- one sign -/
def signOf (x : Str) : Option Nat := match x.cps.toList with
  | [c] => some c
  | _ => none
theorem signOf_eq {x : Str} {c : Nat} (h : signOf x = some c) : x = ⟨#[c]⟩ := by
  unfold signOf at h
  split at h
  · rename_i e
    cases h
    obtain ⟨a⟩ := x
    have e : a.toList = [c] := e
    exact congrArg Str.mk (Array.toList_inj.mp (e.trans rfl))
  · cases h
def rInZ (neg : Bool) : R2D := fun x y S Q => match x, y with
  | .str a, .str z => (match signOf a with
    | some c => Q (.bl (if neg then !decide (c ∈ z.cps.toList) else decide (c ∈ z.cps.toList))) S
    | none => False)
  | x, y => rInY neg x y S Q
section
variable {X : Cx} {a b : Expr} {ta tb : TED} {pos : Pos}
theorem inZ2 {K : PySem.W.Frag} (neg : Bool) : Op2 K (fun x y H Q => ((rIn K neg x y H Q ∨ rDIn neg x y H Q) ∨ rNoneIn neg x y H Q) ∨ ∃ (c : Nat) (z : Str), x = .str ⟨#[c]⟩ ∧ y = .str z ∧ Q (.bl (if neg then !decide (c ∈ z.cps.toList) else decide (c ∈ z.cps.toList))) H) (rInZ neg) := fun G S H d1 d2 v1 v2 Qd Q rh q1 q2 t p => by
  unfold rInZ at t
  split at t
  · rename_i a z
    split at t
    · rename_i c e
      have := signOf_eq e
      subst this
      cases q1; cases q2
      exact .inr ⟨c, z, rfl, rfl, p.here rh (.bl _) t⟩
    · exact t.elim
  · exact .inl (inY2 neg G S H _ _ v1 v2 Qd Q rh q1 q2 t p)
theorem de_inZ {k : Nat} (hr : RoomG k X.A) (ha : DE X a ta) (hb : DE X b tb) (hm : behindInMarks .In b = false := by rfl) : DE X (.Compare a [.In] [b] pos) (tBin (rInZ false) ta tb) := de_cmp (((op_in_seq.or (op_inD hr.un1)).or op_noneIn).or op_in_sign) (inZ2 false) ha hb hm
theorem de_notInZ {k : Nat} (hr : RoomG k X.A) (ha : DE X a ta) (hb : DE X b tb) (hm : behindInMarks .NotIn b = false := by rfl) : DE X (.Compare a [.NotIn] [b] pos) (tBin (rInZ true) ta tb) := de_cmp (((op_notIn_seq.or (op_notInD hr.un1)).or op_noneNotIn).or op_notIn_sign) (inZ2 true) ha hb hm
theorem dt_inZ {k : Nat} (hr : RoomG k X.A) (ha : DE X a ta) (hb : DE X b tb) (hm : behindInMarks .In b = false := by rfl) : DT X (.Compare a [.In] [b] pos) (tTst (tBin (rInZ false) ta tb)) := dt_cmp (((op_in_seq.or (op_inD hr.un1)).or op_noneIn).or op_in_sign) (inZ2 false) ha hb hm
theorem dt_notInZ {k : Nat} (hr : RoomG k X.A) (ha : DE X a ta) (hb : DE X b tb) (hm : behindInMarks .NotIn b = false := by rfl) : DT X (.Compare a [.NotIn] [b] pos) (tTst (tBin (rInZ true) ta tb)) := dt_cmp (((op_notIn_seq.or (op_notInD hr.un1)).or op_noneNotIn).or op_notIn_sign) (inZ2 true) ha hb hm
end
end PD
end

section
/-! PD48: extend by a list or a tuple. -/
namespace PD
open PySem PySem.Spec PyProof.Rows L2
open AutoSeq1 (wpAny_loadPart')
theorem meets_extT (l : Addr) (items : Array Value) (n : Nat) (b : Addr) (items2 : Array Value) (n2 : Nat) (dd : Option Addr) (sl : Array (Option Value)) (hc0 : ¬(!items.isEmpty && Builtin.List.listTooLong (items.size + items2.size)) = true) (hc1 : items.size ≤ sizeLine) (hs2 : items.size + items2.size ≤ sizeLine + 1) :
    Meets (Builtin.«list.extend» ⟨[.ref l, .ref b], []⟩) (fun _ R s => s.heap.get? l = some { cls := .type "list", dict := none, data := .seq items n, slots := #[] } ∧ s.heap.get? b = some { cls := .type "tuple", dict := dd, data := .seq items2 n2, slots := sl } ∧
      R (.ok (.ret Value.none)) { s with heap := s.heap.update l (Obj.mapSeq fun x => x ++ items2), toks := s.toks }) :=
  .of_wp fun prog w A R s h => by
    obtain ⟨hp, g, d, tk, os⟩ := s
    obtain ⟨hl, hb, h⟩ := h
    have f1 := PySem.AutoSeq1.idx_int
    have f2 := PySem.AutoSeq1.sub_tuple_tuple
    have f3 := PySem.AutoSeq1.sub_list_list
    have f4 := PySem.AutoSeq1.sub_tuple_list
    have f5 := PySem.AutoSeq1.sub_list_tuple
    have hz' : (items ++ items2).size ≤ sizeLine + 1 := by rw [Array.size_append]; exact hs2
    wp_walk using (wpAny_updateSeq hl rfl (hz := hc1) (_hz' := hz')), wpAny_loadPart' hl, wpAny_loadPart' hb
    exact ⟨_, rfl, h⟩
section
variable {X : Cx} {o e a b : Expr} {to te ta tb : TED} {apos cpos pos : Pos}
def rExtQ (K : PySem.W.Frag) : V → List V → Hp → VK → Prop := fun v vs H Q => ∃ l b xs zs, v = .ref l ∧ vs = [.ref b] ∧ H l = some (.lst xs) ∧ (SqL K H b zs ∨ SqT K H b zs) ∧ xs.length + zs.length ≤ sizeLine ∧ Q .non (upd H l (.lst (xs ++ zs)))
theorem mt_extQ : MtR X "list.extend" (rExtQ X.K) := by
  intro pins s σ H x vs v us Q I rx rv ⟨l, b, xs, zs, e1, e2, hH, hB, hz, q⟩
  rcases hB with hB | hB
  · exact mt_extS pins s σ H x vs v us Q I rx rv ⟨l, b, xs, zs, e1, e2, hH, hB, hz, q⟩
  subst e1 e2
  cases rx
  obtain ⟨u, rfl, ru⟩ := rv.one
  cases ru
  obtain ⟨z, its, n, r, hl, e⟩ := I.lstM hH
  obtain ⟨its2, r2, ⟨⟨cls, dd, data, sl⟩, ho, hc, n2, hd⟩, hlen⟩ := I.tuple hB
  simp only at hc hd
  subst hc hd
  have hl2 := r2.length
  have hl1 := r.length
  have hsz : its.toArray.size + its2.toArray.size ≤ sizeLine := by rw [List.size_toArray, List.size_toArray]; omega
  have hlong : ¬ (!its.toArray.isEmpty && Builtin.List.listTooLong (its.toArray.size + its2.toArray.size)) = true := by
    rw [notLongL hsz, Bool.and_false]
    decide
  exact call_meets PySem.F.slot_list_extend ⟨_, e, rfl⟩ PySem.F.entry_list_extend (PySem.F.args_list_extend_2 _ _) (meets_extT l its.toArray n b its2.toArray n2 dd sl hlong (by omega) (by omega))
    ⟨e, ho, .non, _, I.lset (its' := its ++ its2) hH e (by simp) (r.append r2) (by rw [List.length_append]; omega), rfl, q⟩
/-- xs.extend(ys), a list or a tuple -/
def rExtX : D → List D → HD → QD → Prop := fun x ds S Q => match x, ds with
  | .ref a, [y] => (match S.hp a, asSeq S y with
    | some (.lst xs), some zs => xs.length + zs.length ≤ sizeLine ∧ Q .non (S.set a (.lst (xs ++ zs)))
    | _, _ => False)
  | _, _ => False
theorem extX_ok : ∀ G S H d v ds vs Qd Q, RH X.K G S H → RD X.K G S H d v → RDs X.K G S H ds vs → rExtX d ds S Qd → Post X.K G S H Qd Q → rExtQ X.K v vs H Q := by
  intro G S H d v ds vs Qd Q rh q1 q2 t p
  unfold rExtX at t
  split at t
  · rename_i a y
    split at t
    · rename_i xs zs e e2
      obtain ⟨_, _, ws, e1, r⟩ := rh.hp a _ e
      cases q1
      cases q2 with
      | @cons _ u _ _ q2 r2 =>
        cases r2
        obtain ⟨b, us, rfl, l2, rr⟩ := asSeq_ok rh e2 q2
        obtain ⟨rh', f'⟩ := rh.writeL e (r.append rr)
        exact ⟨a, b, ws, us, rfl, rfl, e1, l2, by rw [← r.length, ← rr.length]; exact t.1, p _ _ _ _ f' rh' .non t.2⟩
    · exact t.elim
  · exact t.elim
theorem de_extendX (ho : DE X o to) (ha : DA X [e] (tConsD te tNilD)) (hbase : attributeBase o "extend" X.env (eval o X.env) = eval o X.env := by rfl)
    (hfew : ((backTo cpos (starEach (e :: []) X.env)).all (fun x => !x.1) && (backToKw cpos (keywordEach [] X.env)).all (fun x => x.1.isSome)
      && decide ((e :: ([] : List Expr)).length + ([] : List Keyword).length + (if ([] : List Keyword).isEmpty then 0 else 1) < 30)) = true := by rfl)
    (hline : (apos.endLine == cpos.line) = true := by rfl) (hs : starEach (e :: []) X.env = (false, eval e X.env) :: starEach [] X.env := by rfl) : DE X (.Call (.Attribute o "extend" apos) [e] [] cpos) (tMethA rExtX to (tConsD te tNilD)) :=
  de_methA PySem.F.slot_list_extend PySem.F.type_list_extend mt_extQ extX_ok ho ha hbase hfew hline hs rfl
end
end PD
end

section
/-! PD49: the tuple of a text's signs. -/
namespace PD
open PySem PySem.Spec PyProof.Rows L2
def signsV (x : Str) : List V := x.cps.toList.map fun c => V.str ⟨#[c]⟩
theorem call_tupleStr {X : Cx} (hc : X.calm = true) : CallR X (.type "tuple") (fun xs H Q => ∃ z, xs = [.str z] ∧ z.length ≤ sizeLine ∧ ∀ l, H l = none → Q (.ref l) (upd H l (.tup (signsV z)))) := by
  intro pins s σ H xs us Q I r h
  obtain ⟨z, rfl, hz, q⟩ := h
  obtain ⟨u, rfl, rx⟩ := vals1 r
  obtain ⟨t, rfl⟩ := rx
  refine call_tuple_str (I.ok.hd hc) z t (fun h' tk acc kp hacc => ?_) hz
  have I1 : Inv X pins σ H { s with heap := h', toks := tk } := I.kept (t' := tk) kp
  have ea : acc.toList.length = z.cps.size := by rw [Array.length_toList, hacc.1]
  have vr : Vals (signsV z) acc.toList := by
    refine vals_of_at (by unfold signsV; rw [List.length_map, ea, Array.length_toList]) fun j x w h1 h2 => ?_
    obtain ⟨c, u, hc, rfl⟩ := hacc.2 j w (by rw [← Array.getElem?_toList]; exact h2)
    unfold signsV at h1
    rw [List.getElem?_map, Array.getElem?_toList, hc] at h1
    cases h1
    exact ⟨u, rfl⟩
  have I2 : Inv X pins σ (upd H h'.objs.size (.tup (signsV z))) { s with heap := h'.push { cls := .type "tuple", data := .seq acc }, toks := tk } :=
    I1.laid (t' := tk) (fun b o e => Heap.get?_push_of_some _ e) (Nat.le_refl _) (show ObjOk X.prog X.w _ _ _ (.tup (signsV z)) from ⟨by unfold signsV; rw [List.length_map, Array.length_toList]; exact hz, acc.toList, vr, by
      have e : acc.toList.toArray = acc := by simp
      rw [e]
      exact ⟨_, Heap.get?_push_size _ rfl, rfl, 0, rfl⟩⟩)
  exact ⟨.ref h'.objs.size, _, I2, rfl, q _ (I1.hok.fresh (Nat.le_refl _))⟩
/-- tuple(x), of a text too -/
def rTupleX : SpD := fun ds S Q => match ds with
  | [.str z] => z.length ≤ sizeLine ∧ Q (.tup (signsD z)) S
  | ds => rTupleD ds S Q
theorem signs_rds {K : PySem.W.Frag} {G : Addr → Prop} {S : HD} {H : Hp} (z : Str) : RDs K G S H (signsD z) (signsV z) := by
  unfold signsD signsV
  induction z.cps.toList with
  | nil => exact .nil
  | cons c r ih => exact .cons (.str _) ih
theorem call_tupleX {X : Cx} (hc : X.calm = true) : CallRD X (.type "tuple") rTupleX := by
  intro pins s σ H vs us ds G S Qd Q I rv rd rh t p
  unfold rTupleX at t
  split at t
  · rename_i z
    cases rd with
    | cons q1 r1 =>
      cases r1
      cases q1
      exact call_tupleStr hc pins s σ H _ us Q I rv ⟨z, rfl, t.1, fun l hl => p.newT rh (signs_rds z) t.2 hl⟩
  · exact call_tupleRD pins s σ H vs us _ G S Qd Q I rv rd rh t p
end PD
end

section
/-! PD50: a def that makes functions, from the written part. -/
namespace PD
open PySem PySem.Spec PyProof.Rows L2
theorem defT_mk {x : Str} {K : PySem.W.Frag} {h : Heap} {mg : Str → Option Value} (X : K.In h) (G : h.Ns mainGlobals mg) {st : Stmt} {f c P : Addr} {od an od' : Option Addr} {sl sl' : Array (Option Value)} {fs : Array Value} {oc kV dc pm ct oc' : Value}
    (a : PySem.W.nsIn K mainGlobals x = some (some (.ref f))) (l : K.lookup f = some ⟨oc, od, .func (PySem.W.fnOf x x (defArgs st) (defBody st) (defScope st) .none kV dc pm an (.ref c) ct), sl⟩) (cc : PySem.W.codeIn K (.ref c) x = true) (k : PySem.W.keepIn K (.ref f) = true)
    (l2 : K.lookup c = some ⟨oc', od', .fields fs, sl'⟩) (hP : (fs[11]? : Option Value) = some (.ref P)) : DefT K mg x st c P := by
  refine DefT.mk' X G (defOf_mk X G a l cc k) ?_
  unfold PySem.W.tabIn
  rw [a]
  dsimp only
  rw [l]
  show (match K.lookup c with
        | some ⟨_, _, .fields vs, _⟩ => (match (vs[11]? : Option Value) with
          | some (.ref P) => some (c, P)
          | _ => none)
        | _ => none) = some (c, P)
  rw [l2]
  dsimp only
  rw [hP]
end PD
end

section
/-! PD51: zip with one name as target. -/
namespace PD
open PySem PySem.Spec PyProof.Rows L2
open Sem (wp)
/-- a zip, whatever it remembers of the pair that it gave last -/
abbrev IsZipG (h : Heap) (z TI TO : Addr) (f0 : Value) (b : Bool) : Prop :=
  h.get? z = some { cls := .type "zip", dict := none, data := .fields #[f0, .bool b, .bool false, .ref TI, .ref TO], slots := #[] }
def Last (f0 : Value) : Prop := f0 = .none ∨ ∃ T : Nat, f0 = rawInt (T : Int)
section
variable {prog : Program} {w : World} {A : Around} {E : Value → Shared → Prop} {s : Shared} {z TI TO i1 i2 : Addr} {fp1 fp2 : List Addr} {n1 n2 i : Nat} {P1 P2 : Nat → Value → Prop} {St1 St2 : Nat → Heap → Prop} {a1 a2 f0 : Value} {b : Bool}
theorem wpAny_alive {a : Addr} {Q : Option Obj → Shared → Prop} (h : Q (s.heap.get? a) s) : wpAny (model prog w) A (loadIfAlive a) Q E s := fun _ _ _ => h
theorem wpAny_tupleG {Q : Bool → Shared → Prop} (hz : IsZipG s.heap z TI TO f0 b) (hf : Last f0) (h1 : Q true s) (h2 : ∀ h', IsZipG h' z TI TO f0 true → Heap.SameBut z s.heap h' → Q false { s with heap := h' }) :
    wpAny (model prog w) A (Builtin.SmallTypes.ownedTupleIsFree (.ref z)) Q E s := by
  unfold Builtin.SmallTypes.ownedTupleIsFree
  rcases hf with rfl | ⟨T, rfl⟩
  · exact wpAny_bind (wpAny_field hz rfl (x := .none) rfl (wpAny_pure h1))
  · refine wpAny_bind (wpAny_field hz rfl (x := rawInt (T : Int)) rfl ?_)
    show wpAny _ _ (loadIfAlive ((T : Int).toNat) >>= _) _ _ _
    refine wpAny_bind (wpAny_alive ?_)
    cases s.heap.get? ((T : Int).toNat) with
    | none =>
      simp only [Option.isNone_none, if_true]
      exact wpAny_pure h1
    | some o =>
      simp only [Option.isNone_some, Bool.false_eq_true, if_false]
      refine wpAny_bind (wpAny_field hz rfl (x := .bool b) rfl ?_)
      cases b with
      | true =>
        rw [if_neg (show ¬ ((Value.bool true != Value.bool true) = true) from Bool.false_ne_true)]
        exact wpAny_pure (h2 s.heap hz (Heap.SameBut.refl _ _))
      | false =>
        rw [if_pos (show (Value.bool false != Value.bool true) = true from rfl)]
        exact wpAny_bind (wpAny_setField_rec hz (by simp) fun h₁ hz₁ hs₁ => wpAny_pure (h2 h₁ hz₁ hs₁))
theorem zipN_next_item {Q : Value → Shared → Prop} (S : ZipSep2 z TI TO i1 i2 fp1 fp2) (D1 : Draws prog w A i1 fp1 n1 P1 St1) (D2 : Draws prog w A i2 fp2 n2 P2 St2)
    (hz : IsZipG s.heap z TI TO f0 b) (hf : Last f0) (hTI : IsTupOf2 s.heap TI (.ref i1) (.ref i2)) (hTO : IsTupOf2 s.heap TO a1 a2) (st1 : St1 i s.heap) (st2 : St2 i s.heap) (hlt1 : i < n1) (hlt2 : i < n2)
    (hQ : ∀ x1 x2 h' tk, P1 i x1 → P2 i x2 → (∃ f0 b, IsZipG h' z TI TO f0 b ∧ Last f0) → (∃ a1 a2, IsTupOf2 h' TO a1 a2) → St1 (i + 1) h' → St2 (i + 1) h' → IsTupOf2 h' s.heap.objs.size x1 x2 → h'.objs.size = s.heap.objs.size + 1 →
      (∀ c o, c ≠ z → c ≠ TO → c ≠ i1 → c ≠ i2 → s.heap.get? c = some o → h'.get? c = some o) → Q (.ref s.heap.objs.size) { s with heap := h', toks := tk }) :
    wpAny (model prog w) A (Builtin.«zip.__next__» ⟨[.ref z], []⟩) (fun fin s' => ∃ v, fin = .done (.ret v) ∧ Q v s') E s := by
  obtain ⟨hp, g, d, tk0, os⟩ := s
  show wpAny _ _ (field (.ref z) 2 >>= _) _ _ _
  refine wpAny_bind (wpAny_field hz rfl (x := .bool false) rfl ?_)
  show wpAny _ _ (field (.ref z) 3 >>= _) _ _ _
  refine wpAny_bind (wpAny_field hz rfl (x := .ref TI) rfl ?_)
  refine wpAny_bind (wpAny_seqItems hTI rfl ?_)
  show wpAny _ _ (Builtin.SmallTypes.ownedTupleIsFree (.ref z) >>= _) _ _ _
  refine wpAny_bind (wpAny_tupleG hz hf ?_ fun h₁ hz₁ hs₁ => ?_)
  · simp only [if_true]
    refine wpAny_bind (wpAny_rule ?_)
    refine wpAny_bind (wpAny_field hz rfl (x := .ref TO) rfl ?_)
    refine wpAny_bind (wpAny_setField_rec hz (by simp) fun g0 hz0 hs0 => ?_)
    replace hz0 : IsZipG g0 z TI TO .ellipsis b := hz0
    replace hs0 : Heap.SameBut z hp g0 := hs0
    refine wpAny_bind ?_
    simp only [List.zipIdx_cons, List.zipIdx_nil, List.forIn_cons, List.forIn_nil]
    refine wpAny_bind (wpAny_bind (wpAny_onRaise ?_))
    show wpAny _ _ (Builtin.SmallTypes.nextOf (.ref i1) >>= _) _ _ ⟨g0, g, d, tk0, os⟩
    refine wpAny_bind (D1.item i _ _ _ hlt1 (D1.over st1 hs0 S.zf1) fun x1 p1 tk1 hx1 sn1 hp1 => wpAny_pure ?_)
    replace hp1 : Heap.SameBut i1 g0 p1 := hp1
    have hU1 : IsTupOf2 p1 TO a1 a2 := hp1.extBut _ _ S.Ti1 (hs0.extBut _ _ S.TOz hTO)
    refine wpAny_bind (wpAny_seqItems (s := ⟨p1, g, d, tk1, os⟩) hU1 rfl ?_)
    refine wpAny_bind (updateSeq_IsTupOf2 (s := ⟨p1, g, d, tk1, os⟩) hU1 fun g1 hT1 hs1 => ?_)
    replace hT1 : IsTupOf2 g1 TO x1 a2 := hT1
    replace hs1 : Heap.SameBut TO p1 g1 := hs1
    refine wpAny_bind (wpAny_letGo (wpAny_pure ?_))
    refine wpAny_bind (wpAny_bind (wpAny_onRaise ?_))
    show wpAny _ _ (Builtin.SmallTypes.nextOf (.ref i2) >>= _) _ _ ⟨g1, g, d, tk1, os⟩
    refine wpAny_bind (D2.item i _ _ _ hlt2 (D2.over (D2.over (D2.over st2 hs0 S.zf2) hp1 S.sep1_2) hs1 S.Tf2) fun x2 p2 tk2 hx2 sn2 hp2 => wpAny_pure ?_)
    replace hp2 : Heap.SameBut i2 g1 p2 := hp2
    have hU2 : IsTupOf2 p2 TO x1 a2 := hp2.extBut _ _ S.Ti2 hT1
    refine wpAny_bind (wpAny_seqItems (s := ⟨p2, g, d, tk2, os⟩) hU2 rfl ?_)
    refine wpAny_bind (updateSeq_IsTupOf2 (s := ⟨p2, g, d, tk2, os⟩) hU2 fun g2 hT2 hs2 => ?_)
    replace hT2 : IsTupOf2 g2 TO x1 x2 := hT2
    replace hs2 : Heap.SameBut TO p2 g2 := hs2
    refine wpAny_bind (wpAny_letGo (wpAny_pure (wpAny_pure ?_)))
    refine wpAny_bind (wpAny_seqItems (s := ⟨g2, g, d, tk2, os⟩) hT2 rfl ?_)
    refine wpAny_bind (wpAny_newTuple ?_)
    have hsz : g2.objs.size = hp.objs.size := by rw [hs2.1, hp2.1, hs1.1, hp1.1, hs0.1]
    have hzz : IsZipG g2 z TI TO .ellipsis b := (hs2.extBut _ _ S.TOz.symm (hp2.extBut _ _ S.zi2 (hs1.extBut _ _ S.TOz.symm (hp1.extBut _ _ S.zi1 hz0))))
    have hkk : ∀ c o, c ≠ z → c ≠ TO → c ≠ i1 → c ≠ i2 → hp.get? c = some o → g2.get? c = some o := fun c o cz cT c1 c2 e =>
      (hs2.extBut _ _ cT (hp2.extBut _ _ c2 (hs1.extBut _ _ cT (hp1.extBut _ _ c1 (hs0.extBut _ _ cz e)))))
    have hj1 : St1 (i + 1) g2 := (D1.over (D1.over (D1.over sn1 hs1 S.Tf1) hp2 S.sep2_1) hs2 S.Tf1)
    have hj2 : St2 (i + 1) g2 := (D2.over sn2 hs2 S.Tf2)
    have hzlt : z < g2.objs.size := Heap.lt_size hzz
    show wpAny _ _ (Builtin.SmallTypes.ownedTupleHandOut (.ref z) (.ref g2.objs.size) >>= _) _ _ ⟨g2.push { cls := .type "tuple", data := .seq #[x1, x2] }, g, d, tk2, os⟩
    refine wpAny_bind ?_
    unfold Builtin.SmallTypes.ownedTupleHandOut
    have hz₆ : IsZipG (g2.push { cls := .type "tuple", data := .seq #[x1, x2] }) z TI TO .ellipsis b := Heap.get?_push_of_some _ hzz
    refine wpAny_bind (wpAny_setField_rec hz₆ (by simp) fun h₇ hz₇ hs₇ => ?_)
    replace hz₇ : IsZipG h₇ z TI TO (rawInt g2.objs.size) b := hz₇
    refine wpAny_setField_rec hz₇ (by simp) fun h₈ hz₈ hs₈ => ?_
    replace hz₈ : IsZipG h₈ z TI TO (rawInt g2.objs.size) false := hz₈
    replace hs₇ : Heap.SameBut z (g2.push { cls := .type "tuple", data := .seq #[x1, x2] }) h₇ := hs₇
    replace hs₈ : Heap.SameBut z h₇ h₈ := hs₈
    have up : ∀ c o, c ≠ z → g2.get? c = some o → h₈.get? c = some o := fun c o c1 e => hs₈.extBut _ _ c1 (hs₇.extBut _ _ c1 (Heap.get?_push_of_some _ e))
    have hT₈ : IsTupOf2 h₈ g2.objs.size x1 x2 := hs₈.extBut _ _ (Nat.ne_of_gt hzlt) (hs₇.extBut _ _ (Nat.ne_of_gt hzlt) (Heap.get?_push_size _ rfl))
    have hz8 : h₈.objs.size = g2.objs.size + 1 := by rw [hs₈.1, hs₇.1, Heap.size_push]
    rw [hsz] at hz₈ hT₈ hz8
    refine wpAny_pure ⟨_, rfl, ?_⟩
    show Q (.ref g2.objs.size) ⟨h₈, g, d, tk2, os⟩
    rw [hsz]
    exact hQ x1 x2 h₈ tk2 hx1 hx2 ⟨_, _, hz₈, .inr ⟨_, rfl⟩⟩ ⟨_, _, up _ _ S.TOz hT2⟩ (D1.frame _ _ _ hj1 fun b hb o e => up b o (fun q => S.zf1 (q ▸ hb)) e) (D2.frame _ _ _ hj2 fun b hb o e => up b o (fun q => S.zf2 (q ▸ hb)) e) hT₈ hz8 fun c o cz cT c1 c2 e => up c o cz (hkk c o cz cT c1 c2 e)
  · simp only [Bool.false_eq_true, if_false]
    replace hs₁ : Heap.SameBut z hp h₁ := hs₁
    replace hz₁ : IsZipG h₁ z TI TO f0 true := hz₁
    refine wpAny_bind ?_
    rw [← Array.forIn_toList]
    simp only [List.forIn_cons, List.forIn_nil]
    refine wpAny_bind (wpAny_bind (wpAny_holding ?_))
    show wpAny _ _ (Builtin.SmallTypes.nextOf (.ref i1) >>= _) _ _ ⟨h₁, g, d, tk0, os⟩
    refine wpAny_bind (D1.item i _ _ _ hlt1 (D1.over st1 hs₁ S.zf1) fun x1 p1 tk1 hx1 sn1 hp1 => wpAny_pure ?_)
    replace hp1 : Heap.SameBut i1 h₁ p1 := hp1
    refine wpAny_pure ?_
    refine wpAny_bind (wpAny_bind (wpAny_holding ?_))
    show wpAny _ _ (Builtin.SmallTypes.nextOf (.ref i2) >>= _) _ _ ⟨p1, g, d, tk1, os⟩
    refine wpAny_bind (D2.item i _ _ _ hlt2 (D2.over (D2.over st2 hs₁ S.zf2) hp1 S.sep1_2) fun x2 p2 tk2 hx2 sn2 hp2 => wpAny_pure ?_)
    replace hp2 : Heap.SameBut i2 p1 p2 := hp2
    refine wpAny_pure (wpAny_pure ?_)
    show wpAny _ _ (newTuple [x1, x2] >>= _) _ _ ⟨p2, g, d, tk2, os⟩
    refine wpAny_bind (wpAny_newTuple ?_)
    have hsz : p2.objs.size = hp.objs.size := by rw [hp2.1, hp1.1, hs₁.1]
    have hzz : IsZipG p2 z TI TO f0 true := hp2.extBut _ _ S.zi2 (hp1.extBut _ _ S.zi1 hz₁)
    have hkk : ∀ c o, c ≠ z → c ≠ i1 → c ≠ i2 → hp.get? c = some o → p2.get? c = some o := fun c o cz c1 c2 e =>
      hp2.extBut _ _ c2 (hp1.extBut _ _ c1 (hs₁.extBut _ _ cz e))
    have hj1 : St1 (i + 1) p2 := D1.over sn1 hp2 S.sep2_1
    refine wpAny_pure ⟨_, rfl, ?_⟩
    show Q (.ref p2.objs.size) ⟨p2.push { cls := .type "tuple", data := .seq #[x1, x2] }, g, d, tk2, os⟩
    have up : ∀ c o, p2.get? c = some o → (p2.push { cls := .type "tuple", data := .seq #[x1, x2] }).get? c = some o := fun c o e => Heap.get?_push_of_some _ e
    have hT : IsTupOf2 (p2.push { cls := .type "tuple", data := .seq #[x1, x2] }) p2.objs.size x1 x2 := Heap.get?_push_size _ rfl
    have hzs : (p2.push { cls := .type "tuple", data := .seq #[x1, x2] }).objs.size = p2.objs.size + 1 := Heap.size_push ..
    rw [hsz] at hT hzs ⊢
    exact hQ x1 x2 _ tk2 hx1 hx2 ⟨_, _, up _ _ hzz, hf⟩ ⟨_, _, up _ _ (hkk _ _ S.TOz S.Ti1 S.Ti2 hTO)⟩ (D1.frame _ _ _ hj1 fun b hb o e => up b o e) (D2.frame _ _ _ sn2 fun b hb o e => up b o e) hT hzs fun c o cz cT c1 c2 e => up c o (hkk c o cz c1 c2 e)
theorem zipN_next_end {Q : Fin → Shared → Prop} (S : ZipSep2 z TI TO i1 i2 fp1 fp2) (D1 : Draws prog w A i1 fp1 n1 P1 St1) (D2 : Draws prog w A i2 fp2 n2 P2 St2)
    (hz : IsZipG s.heap z TI TO f0 b) (hf : Last f0) (hTI : IsTupOf2 s.heap TI (.ref i1) (.ref i2)) (hTO : IsTupOf2 s.heap TO a1 a2) (st1 : St1 i s.heap) (st2 : St2 i s.heap) (hle1 : i ≤ n1) (hle2 : i ≤ n2) (hend : i = n1 ∨ i = n2)
    (hE : ∀ h' tk e, (∀ c o, c ≠ z → c ≠ TO → c ≠ i1 → c ≠ i2 → s.heap.get? c = some o → h'.get? c = some o) → (∃ o, h'.get? e = some o ∧ o.cls = .type "StopIteration") → E (.ref e) { s with heap := h', toks := tk }) :
    wpAny (model prog w) A (Builtin.«zip.__next__» ⟨[.ref z], []⟩) Q E s := by
  obtain ⟨hp, g, d, tk0, os⟩ := s
  show wpAny _ _ (field (.ref z) 2 >>= _) _ _ _
  refine wpAny_bind (wpAny_field hz rfl (x := .bool false) rfl ?_)
  show wpAny _ _ (field (.ref z) 3 >>= _) _ _ _
  refine wpAny_bind (wpAny_field hz rfl (x := .ref TI) rfl ?_)
  refine wpAny_bind (wpAny_seqItems hTI rfl ?_)
  show wpAny _ _ (Builtin.SmallTypes.ownedTupleIsFree (.ref z) >>= _) _ _ _
  refine wpAny_bind (wpAny_tupleG hz hf ?_ fun h₁ hz₁ hs₁ => ?_)
  · simp only [if_true]
    refine wpAny_bind (wpAny_rule ?_)
    refine wpAny_bind (wpAny_field hz rfl (x := .ref TO) rfl ?_)
    refine wpAny_bind (wpAny_setField_rec hz (by simp) fun g0 hz0 hs0 => ?_)
    replace hz0 : IsZipG g0 z TI TO .ellipsis b := hz0
    replace hs0 : Heap.SameBut z hp g0 := hs0
    refine wpAny_bind ?_
    simp only [List.zipIdx_cons, List.zipIdx_nil, List.forIn_cons, List.forIn_nil]
    refine wpAny_bind (wpAny_bind (wpAny_onRaise ?_))
    show wpAny _ _ (Builtin.SmallTypes.nextOf (.ref i1) >>= _) _ _ ⟨g0, g, d, tk0, os⟩
    by_cases hlt1 : i < n1
    · refine wpAny_bind (D1.item i _ _ _ hlt1 (D1.over st1 hs0 S.zf1) fun x1 p1 tk1 hx1 sn1 hp1 => wpAny_pure ?_)
      replace hp1 : Heap.SameBut i1 g0 p1 := hp1
      have hU1 : IsTupOf2 p1 TO a1 a2 := hp1.extBut _ _ S.Ti1 (hs0.extBut _ _ S.TOz hTO)
      refine wpAny_bind (wpAny_seqItems (s := ⟨p1, g, d, tk1, os⟩) hU1 rfl ?_)
      refine wpAny_bind (updateSeq_IsTupOf2 (s := ⟨p1, g, d, tk1, os⟩) hU1 fun g1 hT1 hs1 => ?_)
      replace hT1 : IsTupOf2 g1 TO x1 a2 := hT1
      replace hs1 : Heap.SameBut TO p1 g1 := hs1
      refine wpAny_bind (wpAny_letGo (wpAny_pure ?_))
      have hi2 : i = n2 := by omega
      refine wpAny_bind (wpAny_bind (wpAny_onRaise ?_))
      show wpAny _ _ (Builtin.SmallTypes.nextOf (.ref i2) >>= _) _ _ ⟨g1, g, d, tk1, os⟩
      refine wpAny_bind (D2.done ⟨g1, g, d, tk1, os⟩ _ _ (by rw [← hi2]; exact (D2.over (D2.over (D2.over st2 hs0 S.zf2) hp1 S.sep1_2) hs1 S.Tf2)) fun q e hq he => ?_)
      replace hq : Heap.ExtBut i2 g1 q := hq
      obtain ⟨oe, hoe, hce⟩ := he
      replace hoe : q.get? e = some oe := hoe
      have hzq : IsZipG q z TI TO .ellipsis b := hq _ _ S.zi2 (hs1.extBut _ _ S.TOz.symm (hp1.extBut _ _ S.zi1 hz0))
      have hez : e ≠ z := fun x => by subst x; rw [hzq] at hoe; cases hoe; simp at hce
      refine wpAny_setField_rec (s := ⟨q, g, d, tk1, os⟩) hzq (by simp) fun q' _ hq' => ?_
      replace hq' : Heap.SameBut z q q' := hq'
      exact hE q' tk1 e (fun c o cz cT c1 c2 x => hq'.extBut _ _ cz (hq _ _ c2 (hs1.extBut _ _ cT (hp1.extBut _ _ c1 (hs0.extBut _ _ cz x))))) ⟨oe, hq'.extBut _ _ hez hoe, hce⟩
    · have hi1 : i = n1 := by omega
      refine wpAny_bind (D1.done ⟨g0, g, d, tk0, os⟩ _ _ (by rw [← hi1]; exact (D1.over st1 hs0 S.zf1)) fun q e hq he => ?_)
      replace hq : Heap.ExtBut i1 g0 q := hq
      obtain ⟨oe, hoe, hce⟩ := he
      replace hoe : q.get? e = some oe := hoe
      have hzq : IsZipG q z TI TO .ellipsis b := hq _ _ S.zi1 hz0
      have hez : e ≠ z := fun x => by subst x; rw [hzq] at hoe; cases hoe; simp at hce
      refine wpAny_setField_rec (s := ⟨q, g, d, tk0, os⟩) hzq (by simp) fun q' _ hq' => ?_
      replace hq' : Heap.SameBut z q q' := hq'
      exact hE q' tk0 e (fun c o cz cT c1 c2 x => hq'.extBut _ _ cz (hq _ _ c1 (hs0.extBut _ _ cz x))) ⟨oe, hq'.extBut _ _ hez hoe, hce⟩
  · simp only [Bool.false_eq_true, if_false]
    replace hs₁ : Heap.SameBut z hp h₁ := hs₁
    refine wpAny_bind ?_
    rw [← Array.forIn_toList]
    simp only [List.forIn_cons, List.forIn_nil]
    refine wpAny_bind (wpAny_bind (wpAny_holding ?_))
    show wpAny _ _ (Builtin.SmallTypes.nextOf (.ref i1) >>= _) _ _ ⟨h₁, g, d, tk0, os⟩
    by_cases hlt1 : i < n1
    · refine wpAny_bind (D1.item i _ _ _ hlt1 (D1.over st1 hs₁ S.zf1) fun x1 p1 tk1 hx1 sn1 hp1 => wpAny_pure ?_)
      replace hp1 : Heap.SameBut i1 h₁ p1 := hp1
      refine wpAny_pure ?_
      have hi2 : i = n2 := by omega
      refine wpAny_bind (wpAny_bind (wpAny_holding ?_))
      show wpAny _ _ (Builtin.SmallTypes.nextOf (.ref i2) >>= _) _ _ ⟨p1, g, d, tk1, os⟩
      refine wpAny_bind (D2.done ⟨p1, g, d, tk1, os⟩ _ _ (by rw [← hi2]; exact (D2.over (D2.over st2 hs₁ S.zf2) hp1 S.sep1_2)) fun q e hq he => ?_)
      replace hq : Heap.ExtBut i2 p1 q := hq
      exact hE q tk1 e (fun c o cz cT c1 c2 x => hq _ _ c2 (hp1.extBut _ _ c1 (hs₁.extBut _ _ cz x))) he
    · have hi1 : i = n1 := by omega
      refine wpAny_bind (D1.done ⟨h₁, g, d, tk0, os⟩ _ _ (by rw [← hi1]; exact (D1.over st1 hs₁ S.zf1)) fun q e hq he => ?_)
      replace hq : Heap.ExtBut i1 h₁ q := hq
      exact hE q tk0 e (fun c o cz cT c1 c2 x => hq _ _ c1 (hs₁.extBut _ _ cz x)) he
end
end PD
end

section
/-! PD52: zip with one name as target, in loops and comprehensions. -/
namespace PD
open PySem PySem.Spec PyProof.Rows L2
section
variable {prog : Program} {w : World} {A : Around} {E : Value → Shared → Prop} {s : Shared} {z TI TO i1 i2 : Addr} {fp1 fp2 : List Addr} {n1 n2 i : Nat} {P1 P2 : Nat → Value → Prop} {St1 St2 : Nat → Heap → Prop} {a1 a2 f0 : Value} {b : Bool}
theorem wpAny_pyNext_zipN_item {Q : Option Value → Shared → Prop} (S : ZipSep2 z TI TO i1 i2 fp1 fp2) (D1 : Draws prog w A.in1 i1 fp1 n1 P1 St1) (D2 : Draws prog w A.in1 i2 fp2 n2 P2 St2)
    (hz : IsZipG s.heap z TI TO f0 b) (hf : Last f0) (hTI : IsTupOf2 s.heap TI (.ref i1) (.ref i2)) (hTO : IsTupOf2 s.heap TO a1 a2) (st1 : St1 i s.heap) (st2 : St2 i s.heap) (hlt1 : i < n1) (hlt2 : i < n2)
    (hQ : ∀ x1 x2 h' tk, P1 i x1 → P2 i x2 → (∃ f0 b, IsZipG h' z TI TO f0 b ∧ Last f0) → (∃ a1 a2, IsTupOf2 h' TO a1 a2) → St1 (i + 1) h' → St2 (i + 1) h' → IsTupOf2 h' s.heap.objs.size x1 x2 → h'.objs.size = s.heap.objs.size + 1 →
      (∀ c o, c ≠ z → c ≠ TO → c ≠ i1 → c ≠ i2 → s.heap.get? c = some o → h'.get? c = some o) → Q (some (.ref s.heap.objs.size)) { s with heap := h', toks := tk }) :
    wpAny (model prog w) A (pyNext (.ref z)) Q E s := by
  have hT : s.TypeIs (.ref z) "zip" := ⟨_, hz, rfl⟩
  unfold pyNext
  exact wpAny_bind (wpAny_attempt (wpAny_callSpecial?_slot (name := Str.ofString "__next__") hT F.slot_zip_next
    (wpAny_call_entry F.slot_zip_next hT F.entry_zip_next
      (zipN_next_item S D1 D2 hz hf hTI hTO st1 st2 hlt1 hlt2 fun x1 x2 h' tk y1 y2 b1 b2 d1 d2 b5 b6 b7 => wpAny_pure (hQ x1 x2 h' tk y1 y2 b1 b2 d1 d2 b5 b6 b7)) (F.args_zip_next_1 _))))
theorem wpAny_pyNext_zipN_end {Q : Option Value → Shared → Prop} (S : ZipSep2 z TI TO i1 i2 fp1 fp2) (D1 : Draws prog w A.in1 i1 fp1 n1 P1 St1) (D2 : Draws prog w A.in1 i2 fp2 n2 P2 St2)
    (hz : IsZipG s.heap z TI TO f0 b) (hf : Last f0) (hTI : IsTupOf2 s.heap TI (.ref i1) (.ref i2)) (hTO : IsTupOf2 s.heap TO a1 a2) (st1 : St1 i s.heap) (st2 : St2 i s.heap) (hle1 : i ≤ n1) (hle2 : i ≤ n2) (hend : i = n1 ∨ i = n2)
    (hQ : ∀ h' tk, (∀ c o, c ≠ z → c ≠ TO → c ≠ i1 → c ≠ i2 → s.heap.get? c = some o → h'.get? c = some o) → Q none { s with heap := h', toks := tk }) : wpAny (model prog w) A (pyNext (.ref z)) Q E s := by
  have hT : s.TypeIs (.ref z) "zip" := ⟨_, hz, rfl⟩
  unfold pyNext
  refine wpAny_bind (wpAny_attempt (wpAny_callSpecial?_slot (name := Str.ofString "__next__") hT F.slot_zip_next
    (wpAny_call_entry F.slot_zip_next hT F.entry_zip_next (zipN_next_end S D1 D2 hz hf hTI hTO st1 st2 hle1 hle2 hend fun h' tk e hk he => ?_) (F.args_zip_next_1 _))))
  obtain ⟨o, ho, hc⟩ := he
  refine wpAny_bind (wpAny_isInstance (T := "StopIteration") (b := true) ⟨o, ho, hc⟩ isSubtype_stop ?_)
  exact wpAny_pure (hQ _ _ hk)
theorem wpAny_pyIter_zipG {Q : Value → Shared → Prop} (hz : IsZipG s.heap z TI TO f0 b) (h : Q (.ref z) s) : wpAny (model prog w) A (pyIter (.ref z)) Q E s := by
  have hT : s.TypeIs (.ref z) "zip" := ⟨_, hz, rfl⟩
  refine wpAny_pyIter_slot hT F.slot_zip_iter (wpAny_call_entry F.slot_zip_iter hT F.entry_zip_iter ?_ (F.args_zip_iter_1 _))
  show wpAny _ _ (ret (.ref z)) _ _ s
  exact wpAny_pure ⟨_, rfl, "zip", _, hT, F.slot_zip_next.lookup, h⟩
end
theorem turn_zipN {P : Program} {w : World} {K : PySem.W.Frag} {nm : Str} {tpos : Pos} (k1 k2 : SK) (v1 v2 : V) (u1 u2 : Value) (hv1 : RelV v1 u1) (hv2 : RelV v2 u2) (N : Nat) (hN1 : Below u1 N) (hN2 : Below u2 N) :
    Turn P w K (.Name nm tpos) (ItzA K k1 k2 v1 v2) [N + 4, N + 2, N + 3, N, N + 1] (N + 4)
      (fun i h => (∃ f0 b, IsZipG h (N + 4) (N + 2) (N + 3) f0 b ∧ Last f0) ∧ IsTupOf2 h (N + 2) (.ref N) (.ref (N + 1)) ∧ (∃ a b, IsTupOf2 h (N + 3) a b) ∧ ItSt k1 u1 N i h ∧ ItSt k2 u2 (N + 1) i h) where
  mem := by simp
  obj := fun i h st c hc => by
    obtain ⟨⟨f0, bb, hz, hf0⟩, hTI, ⟨x, y, hTO⟩, h1, h2⟩ := st
    obtain ⟨o1, vs1, e1, d1⟩ := h1.obj
    obtain ⟨o2, vs2, e2, d2⟩ := h2.obj
    have e' : c = N + 4 ∨ c = N + 2 ∨ c = N + 3 ∨ c = N ∨ c = N + 1 := by simpa using hc
    rcases e' with q | q | q | q | q <;> rw [q]
    · exact ⟨_, hz, fun v q => nomatch q⟩
    · exact ⟨_, hTI, fun v q => nomatch q⟩
    · exact ⟨_, hTO, fun v q => nomatch q⟩
    · exact ⟨o1, e1, fun v q => by rw [d1] at q; cases q⟩
    · exact ⟨o2, e2, fun v q => by rw [d2] at q; cases q⟩
  keep := fun i h h' st kp => by
    obtain ⟨⟨f0, bb, hz, hf0⟩, hTI, ⟨x, y, hTO⟩, h1, h2⟩ := st
    exact ⟨⟨f0, bb, kp _ (by simp) _ hz, hf0⟩, kp _ (by simp) _ hTI, ⟨x, y, kp _ (by simp) _ hTO⟩, h1.move fun o q => kp _ (by simp) o q, h2.move fun o q => kp _ (by simp) o q⟩
  item := by
    intro X hP hw hK hc i pins s σ H E I hf st hg
    subst hP hw hK
    obtain ⟨⟨f0, bb, hz, hf0⟩, hTI, ⟨x0, y0, hTO⟩, h1, h2⟩ := st
    obtain ⟨xs, ys, x, y, hqx, hqy, hx, hy⟩ := hg
    obtain ⟨r1, P1, St1, D1, s1, p1, n1, b1⟩ := srcV_draws I (A := X.A.in1) (I.ok.hd hc) hqx hv1 h1
    obtain ⟨r2, P2, St2, D2, s2, p2, n2, b2⟩ := srcV_draws I (A := X.A.in1) (I.ok.hd hc) hqy hv2 h2
    have S := zip_sep2 (N := N) (fp1 := r1) (fp2 := r2) (fun b hb => hN1 b (b1 b hb)) (fun b hb => hN2 b (b2 b hb))
    have hzl : (N + 4 : Nat) < s.heap.objs.size := Heap.lt_size hz
    refine wpAny_pyNext_zipN_item S D1 D2 hz hf0 hTI hTO s1 s2 (List.getElem?_eq_some_iff.mp hx).1 (List.getElem?_eq_some_iff.mp hy).1 fun u u' h' tk y1 y2 z' TO' h1' h2' hT hsz hk => ?_
    obtain ⟨x', e1, ru⟩ := p1 i u y1
    obtain ⟨y', e2, ru2⟩ := p2 i u' y2
    rw [hx] at e1
    rw [hy] at e2
    cases e1
    cases e2
    refine ⟨_, rfl, wpAny_pure ?_⟩
    have hT2 : h'.get? s.heap.objs.size = some { cls := .type "tuple", data := .seq #[u, u'] } := hT
    have new : ObjOk X.prog X.w (upd H s.heap.objs.size (.tup [x, y])) h' s.heap.objs.size (.tup [x, y]) := ⟨by show 2 ≤ sizeLine; decide, [u, u'], .cons ru (.cons ru2 .nil), ⟨_, hT2, rfl, _, rfl⟩⟩
    have I1 : Inv X pins σ (upd H s.heap.objs.size (.tup [x, y])) { s with heap := h', toks := tk } :=
      I.turnedNew (ch := [N + 4, N + 2, N + 3, N, N + 1]) (fun c o hb q => (hk c o (fun q' => hb (by simp [q'])) (fun q' => hb (by simp [q'])) (fun q' => hb (by simp [q'])) (fun q' => hb (by simp [q'])) q)) hf (Nat.le_refl _) new
    have nz : ∀ c : Nat, c ≠ N + 4 → ∀ o, h'.get? c = some o → h'.get? c = some o := fun c hc o q => q
    refine ⟨.ref s.heap.objs.size, _, I1, rfl, ⟨_, x, y, rfl, I.hok.fresh (Nat.le_refl _), rfl, fun l hl => by rw [srcV_inj I hl hqx]; exact hx, fun l hl => by rw [srcV_inj I hl hqy]; exact hy⟩, ⟨z', ?_, TO', ?_, ?_⟩, fun c hcm => ?_⟩
    · exact nz (N + 2) (by omega) _ (hk _ _ S.TIz S.TITO S.TIi1 S.TIi2 hTI)
    · exact (n1 _ _ h1').move fun o q => nz N (by omega) o q
    · exact (n2 _ _ h2').move fun o q => nz (N + 1) (by omega) o q
    · have hlt : c < s.heap.objs.size := by
        have e' : c = N + 4 ∨ c = N + 2 ∨ c = N + 3 ∨ c = N ∨ c = N + 1 := by simpa using hcm
        have : ∀ m : Nat, m ≤ N + 4 → m < s.heap.objs.size := fun m hm => by omega
        rcases e' with q | q | q | q | q <;> (rw [q]; exact this _ (by omega))
      rw [upd_ne (Nat.ne_of_lt hlt)]
      exact (hf c hcm).1
  done := by
    intro X hP hw hK hc i pins s σ H E I hf st hg
    subst hP hw hK
    obtain ⟨⟨f0, bb, hz, hf0⟩, hTI, ⟨x0, y0, hTO⟩, h1, h2⟩ := st
    obtain ⟨xs, ys, hqx, hqy, hend⟩ := hg
    obtain ⟨r1, P1, St1, D1, s1, p1, n1, b1⟩ := srcV_draws I (A := X.A.in1) (I.ok.hd hc) hqx hv1 h1
    obtain ⟨r2, P2, St2, D2, s2, p2, n2, b2⟩ := srcV_draws I (A := X.A.in1) (I.ok.hd hc) hqy hv2 h2
    have S := zip_sep2 (N := N) (fp1 := r1) (fp2 := r2) (fun b hb => hN1 b (b1 b hb)) (fun b hb => hN2 b (b2 b hb))
    exact wpAny_pyNext_zipN_end S D1 D2 hz hf0 hTI hTO s1 s2 (by omega) (by omega) (by omega) fun h' tk hk => ⟨rfl, I.turnedL (t' := tk) (ch := [N + 4, N + 2, N + 3, N, N + 1]) (fun c o hb q =>
      hk c o (fun q' => hb (by simp [q'])) (fun q' => hb (by simp [q'])) (fun q' => hb (by simp [q'])) (fun q' => hb (by simp [q'])) q) hf⟩
  self := fun A i s Q E st h => by
    obtain ⟨⟨f0, bb, hz, _⟩, _⟩ := st
    exact wpAny_pyIter_zipG hz h
theorem pi_zipN {X : Cx} {e e2 : Expr} {ta : TA} {p pos tpos : Pos} {nm : Str} (hg : Gl X "zip") (hm : X.mg "zip" = none) (ha : PA X [e, e2] ta)
    (hs : starEach [e, e2] X.env = (false, eval e X.env) :: starEach [e2] X.env := by rfl) (hpl : (backTo pos (starEach [e2] X.env)).any (·.1) = false := by rfl) :
    PI X (.Name nm tpos) (.Call (.Name "zip" p) [e, e2] [] pos) (iZipX X.K ta) := by
  refine ⟨fun pins s σ H R I h => Call_ (ld_blt I hg hm PyProof.Rows.boot_zip (PyProof.Rows.callWith_type1 (thn (ha.run pos pins s σ H _ I h) fun us s1 ⟨vs, H1, I1, r1, v1, v2, k1, k2, xs, ys, ex, hqx, hqy, q⟩ => ?_) hs hpl))⟩
  subst ex
  cases r1 with
  | @cons _ u1 _ _ ru1 rr =>
    cases rr with
    | @cons _ u2 _ _ ru2 rr =>
      cases rr
      obtain ⟨o1, Hq1, B1, b1, bl1, bi1⟩ := srcV_begins I1 hqx ru1
      obtain ⟨o2, Hq2, B2, b2, bl2, bi2⟩ := srcV_begins I1 hqy ru2
      refine zip_begins2 B1 B2 b1 b2 fun h' hz hTI hTO g1 g2 hsz hk => wpAny_pyIter_zip hz ?_
      refine ⟨s1.heap.objs.size + 4, _, _, _, H1, rfl, I1.kept (t' := s1.toks) hk, turn_zipN k1 k2 v1 v2 u1 u2 ru1 ru2 s1.heap.objs.size bl1 bl2, ⟨⟨_, _, hz, .inl rfl⟩, hTI, ⟨_, _, hTO⟩, bi1 _ _ g1, bi2 _ _ g2⟩, fun c hcm => ?_, q⟩
      have e' : c = s1.heap.objs.size + 4 ∨ c = s1.heap.objs.size + 2 ∨ c = s1.heap.objs.size + 3 ∨ c = s1.heap.objs.size ∨ c = s1.heap.objs.size + 1 := by simpa using hcm
      have hle : s1.heap.objs.size ≤ c := by rcases e' with z | z | z | z | z <;> (rw [z]; first | exact Nat.le_add_right _ _ | exact Nat.le_refl _)
      exact I1.fpOk hle (I1.hok.fresh hle)
theorem di_zipN {X : Cx} {e e2 : Expr} {ta : TAD} {p pos tpos : Pos} {nm : Str} (hm : X.mg "zip" = none) (ha : DA X [e, e2] ta) (hg : Gl X "zip" := by rfl)
    (hs : starEach [e, e2] X.env = (false, eval e X.env) :: starEach [e2] X.env := by rfl) (hpl : (backTo pos (starEach [e2] X.env)).any (·.1) = false := by rfl) : DI X (.Name nm tpos) (.Call (.Name "zip" p) [e, e2] [] pos) (iZipD ta) :=
  (pi_zipN hg hm ha hs hpl).imp fun σ H R ⟨G, σd, S, Rd, rs, rh, t, p⟩ => ⟨G, σd, S, _, rs, rh, t, fun S1 ds vs H1 f1 rh1 q1 t1 => by
    split at t1
    · rename_i d d'
      cases q1 with
      | @cons _ v _ _ q r =>
        cases r with
        | @cons _ v' _ _ q' r =>
          cases r
          split at t1
          · rename_i xs k1 ys k2 ea eb
            obtain ⟨ws, h1, _⟩ := srcD_at ea rh1 q (srcD_keep ea)
            obtain ⟨ws', h2, _⟩ := srcD_at eb rh1 q' (srcD_keep eb)
            exact ⟨v, v', skD d, skD d', ws, ws', rfl, h1, h2, p S1 _ _ _ H1 f1 rh1 (fun G' S2 H2 m2 rh2 => itOk_zip fun S3 H3 f3 rh3 k3 => ⟨srcD_at ea rh3 ((q.mv m2).fl f3) k3.1, srcD_at eb rh3 ((q'.mv m2).fl f3) k3.2⟩) t1⟩
          · exact t1.elim
    · exact t1.elim⟩
end PD
end

section
/-! PD53: (a, b) = a text of as many signs. -/
namespace PD
open PySem PySem.Spec PyProof.Rows L2
section
variable {prog : Program} {w : World} {A : Around} {E : Value → Shared → Prop} {s : Shared}
theorem wpAny_draw_walks {I : Addr} {fp wr : List Addr} {m : Nat} {P : Nat → Value → Prop} {St : Nat → Heap → Prop} (W : Walks prog w A I fp wr m P St) : ∀ (n i : Nat) (s : Shared) (Q : List Value → Shared → Prop), St i s.heap → i + n ≤ m →
    (∀ vs h' tk, vs.length = n → (∀ j v, vs[j]? = some v → P (i + j) v) → St (i + n) h' → (∀ b o, b ∉ wr → s.heap.get? b = some o → h'.get? b = some o) → Q vs { s with heap := h', toks := tk }) → wpAny (model prog w) A (draw (.ref I) n) Q E s
  | 0, i, s, Q, hit, _, hQ => by
    show wpAny _ _ (pure []) Q E s
    exact wpAny_pure (hQ [] s.heap s.toks rfl (fun j v h => by simp at h) hit fun _ _ _ e => e)
  | n + 1, i, s, Q, hit, hle, hQ => by
    show wpAny _ _ (pyNext (.ref I) >>= _) Q E s
    refine wpAny_bind (W.item i s _ _ (by omega) hit fun v h₁ tk hv hit₁ hk₁ => ?_)
    refine wpAny_bind (wpAny_holding (wpAny_draw_walks W n (i + 1) _ _ hit₁ (by omega) fun vs h₂ tk2 hl hp hit₂ hk₂ => wpAny_pure ?_))
    refine hQ (v :: vs) h₂ tk2 (by simp [hl]) (fun j u hj => ?_) (by rw [show i + (n + 1) = i + 1 + n by omega]; exact hit₂) fun b o hb e => hk₂ b o hb (hk₁ b o hb e)
    cases j with
    | zero => simp at hj; subst hj; exact hv
    | succ j =>
      have := hp j u (by simpa using hj)
      rwa [show i + 1 + j = i + (j + 1) by omega] at this
theorem wpAny_unpackItems_str {x : Str} {t : Tok} {Q : List Value → Shared → Prop} (hh : A.handled = none)
    (hQ : ∀ vs h' tk, vs.length = x.cps.size → (∀ j v, vs[j]? = some v → SignAt x j v) → (∀ b o, s.heap.get? b = some o → h'.get? b = some o) → Q vs { s with heap := h', toks := tk }) : wpAny (model prog w) A (unpackItems (.str x t) x.cps.size none) Q E s := by
  unfold unpackItems
  refine wpAny_bind ?_
  unfold notIterableAtAll
  refine wpAny_bind (wpAny_specialOf (T := "str") (v := .str x t) rfl F.slot_str_iter.lookup ?_)
  refine wpAny_pure ?_
  simp only [Bool.false_eq_true, if_false]
  refine wpAny_bind (wpAny_holding (wpAny_pyIter_str fun o St W hst => ?_))
  refine wpAny_bind (wpAny_holding (wpAny_draw_walks (W A hh) x.cps.size 0 _ _ hst (by omega) fun vs h₁ tk hl hp hit₁ hk₁ => ?_))
  rw [if_neg (by omega)]
  refine wpAny_bind (wpAny_holding ((W A hh).done _ _ _ (by simpa using hit₁) fun h₂ tk2 hk₂ => ?_))
  simp only [Option.isSome_none, Bool.false_eq_true, if_false]
  refine wpAny_pure (hQ vs h₂ tk2 hl (fun j v hj => by have := hp j v hj; rwa [Nat.zero_add] at this) fun b o e => ?_)
  have hb : ¬ b ∈ [s.heap.objs.size] := fun hm => Nat.ne_of_lt (Heap.lt_size e) (List.mem_singleton.mp hm)
  exact hk₂ b o hb (hk₁ b o hb (Heap.get?_push_of_some _ e))
end
/-- (a, b, ..) = a list, a tuple or a text -/
def gUnpD (n : Nat) (t : TGsD) : TGD := fun d σ S Q => match d with
  | .str z => (signsD z).length = n ∧ t (signsD z) σ S Q
  | d => gSeqD n t d σ S Q
theorem dg_unp {X : Cx} {pos : Pos} {es : List Expr} {k : Nat} {t : TGsD} {n : Nat} (hc : X.calm = true) (h : DGs X es t)
    (hn : (assignEach es X.env).length = n := by rfl) (hst : (assignEach es X.env).findIdx? (·.1) = none := by rfl) : DG X (.Tuple es k pos) (gUnpD n t) :=
  ⟨fun pins s σ H v u Q I r ⟨G, σd, S, d, Qd, rs, rh, q, tt, p⟩ => by
    unfold gUnpD at tt
    split at tt
    · rename_i z
      cases q
      obtain ⟨tk, rfl⟩ := r
      obtain ⟨hz, tt⟩ := tt
      have hl : (signsD z).length = z.cps.size := by unfold signsD; rw [List.length_map, Array.length_toList]
      rw [PyProof.Rows.assign_Tuple]
      refine wpAny_bind (wpAny_standAt ?_)
      unfold unpack
      rw [hn, hst, ← hz, hl]
      refine wpAny_bind (wpAny_holding (wpAny_unpackItems_str (I.ok.hd hc) fun vs h' tk2 l1 l2 kp => ?_))
      have I1 : Inv X pins σ H { s with heap := h', toks := tk2 } := I.kept (t' := tk2) kp
      have vr : Vals (signsV z) vs := by
        refine vals_of_at (by unfold signsV; rw [List.length_map, l1, Array.length_toList]) fun j x w h1 h2 => ?_
        obtain ⟨c, u, hc, rfl⟩ := l2 j w h2
        unfold signsV at h1
        rw [List.getElem?_map, Array.getElem?_toList, hc] at h1
        cases h1
        exact ⟨u, rfl⟩
      exact h.run pins _ σ H (signsV z) vs Q I1 vr ⟨G, σd, S, signsD z, _, rs, rh, signs_rds z, tt, p⟩
    · exact (dg_seq hc h hn hst).run pins s σ H v u Q I r ⟨G, σd, S, d, Qd, rs, rh, q, tt, p⟩⟩
end PD
end

section
/-! PD54: tuples in lists, and their places. -/
namespace PD
open PySem PySem.Spec PyProof.Rows L2
def okP (d : D) : Bool := okE d && decide (dep d ≤ 8)
theorem okP_inv {d : D} (h : okP d = true) : okE d = true ∧ dep d ≤ 8 := by
  simp only [okP, Bool.and_eq_true, decide_eq_true_eq] at h
  exact h
mutual
theorem plain_py : ∀ d : D, okE d = true → (py d).plain = true
  | .non, _ => rfl
  | .bl _, _ => rfl
  | .int _, _ => rfl
  | .str _, _ => rfl
  | .tup xs, h => plainL_py xs h
  | .lst xs, h => plainL_py xs h
  | .dic _, h => nomatch h
  | .ref _, h => nomatch h
  | .ty _, h => nomatch h
  | .deck, h => nomatch h
theorem plainL_py : ∀ xs : List D, okEL xs = true → PyData.plainAll (pyL xs) = true
  | [], _ => rfl
  | x :: xs, h => by
    simp only [okEL, Bool.and_eq_true] at h
    simp only [pyL, PyData.plainAll, plain_py x h.1, plainL_py xs h.2, Bool.and_self]
end
open Classical in
/-- the answer for an item, read off the heap -/
noncomputable def eqW (s : Shared) (e : PyData) (w : Value) : Bool := decide (∃ d as, Reads s.heap w d as ∧ d.plain = true ∧ PyData.eqv d e = true)
theorem eqW_of {s : Shared} {e d : PyData} {w : Value} {as : List Addr} (r : Reads s.heap w d as) (hp : d.plain = true) : eqW s e w = PyData.eqv d e := by
  classical
  unfold eqW
  cases h : PyData.eqv d e with
  | true => exact decide_eq_true ⟨d, as, r, hp, h⟩
  | false =>
    refine decide_eq_false ?_
    rintro ⟨d', as', r', _, h'⟩
    have : d = d' := SeqAt.plain_unique d d' w as as' hp r r'
    rw [← this, h] at h'
    cases h'
section
variable {X : Cx} {pins : List (Addr × Obj)} {σ : L2.St} {H : Hp} {s : Shared} {G : Addr → Prop} {S : HD}
theorem items_eqW (I : Inv X pins σ H s) (hB : SysB X.base) (hu : X.A.units + 64 < cLine) {e : D} {y : V} {u : Value} (re : RelV y u) (qe : RD X.K G S H e y) (oe : okP e = true) : ∀ {ds : List D} {vs : List V} {us : List Value}, RDs X.K G S H ds vs → Vals vs us → ds.all okP = true →
    (∀ w ∈ us, SeqAt.EqAt X.A.in1 s w u (eqW s (py e) w)) ∧ us.any (eqW s (py e)) = ds.any (fun d => eqd d e) ∧ ∀ j (h1 : j < us.length) (h2 : j < ds.length), SeqAt.EqAt X.A.in1 s us[j] u (eqd ds[j] e)
  | _, _, _, .nil, .nil, _ => ⟨fun w h => (by cases h), rfl, fun j h1 _ => absurd h1 (Nat.not_lt_zero _)⟩
  | d :: ds, v :: vs, w :: us, .cons q r, .cons rv rvs, ok => by
    rw [List.all_cons, Bool.and_eq_true] at ok
    obtain ⟨a1, a2⟩ := okP_inv ok.1
    obtain ⟨b1, b2⟩ := okP_inv oe
    obtain ⟨as, r1, _⟩ := rd_reads I hB d v w q rv (.inr a1)
    obtain ⟨bs, r2, _⟩ := rd_reads I hB e y u qe re (.inr b1)
    have hd : SeqAt.EqAt X.A.in1 s w u (eqd d e) := SeqAt.eqAt_reads (py d) (py e) X.A.in1 s w u as bs r1 r2 (lay_py d a1) (lay_py e b1) (by rw [dep_py, dep_py]; show X.A.units + 1 + _ < _; omega)
    have ew : eqW s (py e) w = eqd d e := eqW_of r1 (plain_py d a1)
    obtain ⟨c1, c2, c3⟩ := items_eqW I hB hu re qe oe r rvs ok.2
    refine ⟨fun x hx => ?_, by rw [List.any_cons, List.any_cons, ew, c2], fun j h1 h2 => ?_⟩
    · rcases List.mem_cons.mp hx with rfl | hx
      · rw [ew]; exact hd
      · exact c1 x hx
    · cases j with
      | zero => exact hd
      | succ j => exact c3 j (Nat.lt_of_succ_lt_succ h1) (Nat.lt_of_succ_lt_succ h2)
end
def rInP (neg : Bool) : R2D := fun x y S Q => match x, asSeq S y with
  | .tup zs, some xs => (okP (.tup zs) = true ∧ xs.all okP = true) ∧ Q (.bl (if neg then !(xs.any fun d => eqd d (.tup zs)) else xs.any fun d => eqd d (.tup zs))) S
  | x, _ => rInZ neg x y S Q
section
variable {X : Cx} {a b e o : Expr} {ta tb te to : TED} {pos apos cpos : Pos}
theorem op_inP {k : Nat} (hr : RoomG k X.A) (hB : SysB X.base) : OpRD X (compareOp .In) (rInP false) := fun pins s σ H x y v u d e G S Qd Q I rx ry q1 q2 rh t p => by
  unfold rInP at t
  split at t
  · rename_i zs xs ex
    obtain ⟨⟨o1, o2⟩, t⟩ := t
    obtain ⟨c, ws, rfl, l, r⟩ := asSeq_ok rh ex q2
    cases ry
    rcases l with l | l
    · obtain ⟨its, rv, pl, hz⟩ := I.list l
      obtain ⟨e1, e2, _⟩ := items_eqW I hB hr.un64 rx q1 o1 r rv o2
      refine SeqAt.in_listAt (eqW s (py (.tup zs))) pl.isList (fun w hw => e1 w (by simpa using hw)) ⟨.bl _, H, I, rfl, ?_⟩
      rw [show its.toArray.any (eqW s (py (.tup zs))) = its.any (eqW s (py (.tup zs))) by simp, e2]
      exact p.here rh (.bl _) t
    · obtain ⟨its, rv, pl, hz⟩ := I.tuple l
      obtain ⟨e1, e2, _⟩ := items_eqW I hB hr.un64 rx q1 o1 r rv o2
      refine SeqAt.in_tupleAt (eqW s (py (.tup zs))) pl (fun w hw => e1 w (by simpa using hw)) ⟨.bl _, H, I, rfl, ?_⟩
      rw [show its.toArray.any (eqW s (py (.tup zs))) = its.any (eqW s (py (.tup zs))) by simp, e2]
      exact p.here rh (.bl _) t
  · exact (((op_in_seq.or (op_inD hr.un1)).or op_noneIn).or op_in_sign) pins s σ H x y v u Q I rx ry (inZ2 false G S H _ _ x y Qd Q rh q1 q2 t p)
theorem op_notInP {k : Nat} (hr : RoomG k X.A) (hB : SysB X.base) : OpRD X (compareOp .NotIn) (rInP true) := fun pins s σ H x y v u d e G S Qd Q I rx ry q1 q2 rh t p => by
  unfold rInP at t
  split at t
  · rename_i zs xs ex
    obtain ⟨⟨o1, o2⟩, t⟩ := t
    obtain ⟨c, ws, rfl, l, r⟩ := asSeq_ok rh ex q2
    cases ry
    rcases l with l | l
    · obtain ⟨its, rv, pl, hz⟩ := I.list l
      obtain ⟨e1, e2, _⟩ := items_eqW I hB hr.un64 rx q1 o1 r rv o2
      refine SeqAt.notIn_listAt (eqW s (py (.tup zs))) pl.isList (fun w hw => e1 w (by simpa using hw)) ⟨.bl _, H, I, rfl, ?_⟩
      rw [show its.toArray.any (eqW s (py (.tup zs))) = its.any (eqW s (py (.tup zs))) by simp, e2]
      exact p.here rh (.bl _) t
    · obtain ⟨its, rv, pl, hz⟩ := I.tuple l
      obtain ⟨e1, e2, _⟩ := items_eqW I hB hr.un64 rx q1 o1 r rv o2
      refine SeqAt.notIn_tupleAt (eqW s (py (.tup zs))) pl (fun w hw => e1 w (by simpa using hw)) ⟨.bl _, H, I, rfl, ?_⟩
      rw [show its.toArray.any (eqW s (py (.tup zs))) = its.any (eqW s (py (.tup zs))) by simp, e2]
      exact p.here rh (.bl _) t
  · exact (((op_notIn_seq.or (op_notInD hr.un1)).or op_noneNotIn).or op_notIn_sign) pins s σ H x y v u Q I rx ry (inZ2 true G S H _ _ x y Qd Q rh q1 q2 t p)
theorem de_inP {k : Nat} (hr : RoomG k X.A) (hB : SysB X.base) (ha : DE X a ta) (hb : DE X b tb) (hm : behindInMarks .In b = false := by rfl) : DE X (.Compare a [.In] [b] pos) (tBin (rInP false) ta tb) := de_cmp (op_inP hr hB).toR lift2 ha hb hm
theorem de_notInP {k : Nat} (hr : RoomG k X.A) (hB : SysB X.base) (ha : DE X a ta) (hb : DE X b tb) (hm : behindInMarks .NotIn b = false := by rfl) : DE X (.Compare a [.NotIn] [b] pos) (tBin (rInP true) ta tb) := de_cmp (op_notInP hr hB).toR lift2 ha hb hm
theorem dt_inP {k : Nat} (hr : RoomG k X.A) (hB : SysB X.base) (ha : DE X a ta) (hb : DE X b tb) (hm : behindInMarks .In b = false := by rfl) : DT X (.Compare a [.In] [b] pos) (tTst (tBin (rInP false) ta tb)) := dt_cmp (op_inP hr hB).toR lift2 ha hb hm
theorem dt_notInP {k : Nat} (hr : RoomG k X.A) (hB : SysB X.base) (ha : DE X a ta) (hb : DE X b tb) (hm : behindInMarks .NotIn b = false := by rfl) : DT X (.Compare a [.NotIn] [b] pos) (tTst (tBin (rInP true) ta tb)) := dt_cmp (op_notInP hr hB).toR lift2 ha hb hm
/-! ### xs.index(x), x a tuple -/
def rIxPv (K : PySem.W.Frag) : V → List V → Hp → VK → Prop := fun v vs H Q => ∃ (G : Addr → Prop) (S : HD) (a : Addr) (ws : List V) (y : V) (e : D) (ds : List D), v = .ref a ∧ vs = [y] ∧ SqL K H a ws ∧ RDs K G S H ds ws ∧ RD K G S H e y ∧ okP e = true ∧ ds.all okP = true ∧
  true ∈ ds.map (fun d => eqd d e) ∧ Q (.int ((ds.map fun d => eqd d e).idxOf true : Nat)) H
theorem mt_ixP (hB : SysB X.base) (hu : X.A.units + 64 < cLine) : MtR X "list.index" (rIxPv X.K) := by
  intro pins s σ H x vs v us Q I rx rv ⟨G, S, a, ws, y, e, ds, e1, e2, l, r, q, oe, od, hm, hq⟩
  subst e1 e2
  cases rx
  obtain ⟨u, rfl, ru⟩ := rv.one
  obtain ⟨its, rvs, pl, hz⟩ := I.list l
  have l1 := r.length
  have l2 := rvs.length
  refine SeqAt.call_list_index (ks := ds.map fun d => eqd d e) (k := true) (vs := its) pl.isList ⟨by rw [List.length_map, l1, l2], fun j h1 h2 => ?_⟩ (by rw [List.length_map, l1]; exact hz) hm ⟨.int _, H, I.tok _, ⟨_, rfl⟩, hq⟩
  rw [List.length_map] at h2
  have := (items_eqW I hB hu ru q oe r rvs od).2.2 j h1 h2
  simpa using this
def rLixP : D → List D → HD → QD → Prop := fun x ds S Q => match ds with
  | [.tup zs] => (match asLst S x with
    | some xs => (okP (.tup zs) = true ∧ xs.all okP = true) ∧ true ∈ xs.map (fun d => eqd d (.tup zs)) ∧ Q (.int ((xs.map fun d => eqd d (.tup zs)).idxOf true : Nat)) S
    | none => False)
  | _ => False
theorem de_lindexP {k : Nat} (hr : RoomG k X.A) (hB : SysB X.base) (ho : DE X o to) (ha : DA X [e] (tConsD te tNilD)) (hbase : attributeBase o "index" X.env (eval o X.env) = eval o X.env := by rfl)
    (hfew : ((backTo cpos (starEach (e :: []) X.env)).all (fun x => !x.1) && (backToKw cpos (keywordEach [] X.env)).all (fun x => x.1.isSome)
      && decide ((e :: ([] : List Expr)).length + ([] : List Keyword).length + (if ([] : List Keyword).isEmpty then 0 else 1) < 30)) = true := by rfl)
    (hline : (apos.endLine == cpos.line) = true := by rfl) (hs : starEach (e :: []) X.env = (false, eval e X.env) :: starEach [] X.env := by rfl) : DE X (.Call (.Attribute o "index" apos) [e] [] cpos) (tMethA rLixP to (tConsD te tNilD)) :=
  de_methA PySem.F.slot_list_index PySem.F.type_list_index (mt_ixP hB hr.un64) (fun G S H d v ds vs Qd Q rh q1 q2 t p => by
    unfold rLixP at t
    split at t
    · rename_i zs
      split at t
      · rename_i xs ex
        obtain ⟨⟨o1, o2⟩, hm, t⟩ := t
        obtain ⟨a, ws, rfl, l, r⟩ := asLst_ok rh ex q1
        cases q2 with
        | @cons _ y _ _ q2 r2 =>
          cases r2
          exact ⟨G, S, a, ws, y, .tup zs, xs, rfl, rfl, l, r, q2, o1, o2, hm, p.here rh (.int _) t⟩
      · exact t.elim
    · exact t.elim) ho ha hbase hfew hline hs rfl
end
end PD
end

section
/-! PD55: dict(zip(a text, a list or a tuple)). -/
namespace PD
open PySem PySem.Spec PyProof.Rows L2
section
variable {prog : Program} {w : World} {z TI TO i1 i2 : Addr} {fp1 fp2 : List Addr} {n1 n2 : Nat} {P1 P2 : Nat → Value → Prop} {St1 St2 : Nat → Heap → Prop}
theorem pairArg_zip (S : ZipSep2 z TI TO i1 i2 fp1 fp2) (D1 : ∀ A : Around, A.handled = none → Draws prog w A i1 fp1 n1 P1 St1) (D2 : ∀ A : Around, A.handled = none → Draws prog w A i2 fp2 n2 P2 St2)
    (th1 : ∀ h, St1 0 h → ∀ b ∈ fp1, ∃ o, h.get? b = some o) (th2 : ∀ h, St2 0 h → ∀ b ∈ fp2, ∃ o, h.get? b = some o) :
    PairArg prog w "zip" z (z :: TI :: TO :: (fp1 ++ fp2)) [z, TO, i1, i2] (min n1 n2) (fun i k v => P1 i k ∧ P2 i v)
      (fun h => IsZip h z TI TO .none ∧ IsTupOf2 h TI (.ref i1) (.ref i2) ∧ (∃ a b, IsTupOf2 h TO a b) ∧ St1 0 h ∧ St2 0 h) where
  type := fun s ok => ⟨_, ok.1, rfl⟩
  notDict := by decide
  keep := fun h h' ok hk => by
    obtain ⟨hz, hTI, ⟨a, b, hTO⟩, h1, h2⟩ := ok
    exact ⟨hk _ _ hz, hk _ _ hTI, ⟨a, b, hk _ _ hTO⟩, (D1 {} rfl).frame _ _ _ h1 fun b _ o e => hk b o e, (D2 {} rfl).frame _ _ _ h2 fun b _ o e => hk b o e⟩
  there := fun h ok b hb => by
    obtain ⟨hz, hTI, ⟨a, c, hTO⟩, h1, h2⟩ := ok
    simp only [List.mem_cons, List.mem_append] at hb
    rcases hb with rfl | rfl | rfl | hb | hb
    · exact ⟨_, hz⟩
    · exact ⟨_, hTI⟩
    · exact ⟨_, hTO⟩
    · exact th1 h h1 b hb
    · exact th2 h h2 b hb
  sub := fun b hb => by
    have m1 := S.mem1
    have m2 := S.mem2
    simp only [List.mem_cons, List.not_mem_nil, or_false] at hb
    simp only [List.mem_cons, List.mem_append]
    rcases hb with rfl | rfl | rfl | rfl
    · exact .inl rfl
    · exact .inr (.inr (.inl rfl))
    · exact .inr (.inr (.inr (.inl m1)))
    · exact .inr (.inr (.inr (.inr m2)))
  noKeys := fun A s Q E hA ok h => getAttrOr_miss_zip ok.1 rfl rfl rfl zip_no_keys (by decide +kernel) hA h
  iter := fun A s d Q E hA ok hd hdf h => by
    obtain ⟨hz, hTI, ⟨a, b, hTO⟩, h1, h2⟩ := ok
    have m1 := S.mem1
    have m2 := S.mem2
    simp only [List.mem_cons, List.mem_append, not_or] at hdf
    obtain ⟨dz, dTI, dTO, df1, df2⟩ := hdf
    have di1 : d ≠ i1 := fun e => df1 (e ▸ m1)
    have di2 : d ≠ i2 := fun e => df2 (e ▸ m2)
    refine wpAny_pyIter_zip hz (h z [z, TO, i1, i2] (fun i h => IsTupOf2 h TI (.ref i1) (.ref i2) ∧ (∃ f0 b, IsZipG h z TI TO f0 b ∧ Last f0) ∧ (∃ a b, IsTupOf2 h TO a b) ∧ St1 i h ∧ St2 i h) s.heap s.toks ?_
      ⟨hTI, ⟨_, _, hz, .inl rfl⟩, ⟨a, b, hTO⟩, h1, h2⟩ (fun _ _ e => e) fun b hb => .inl hb)
    exact {
      off := fun hm => by
        simp only [List.mem_cons, List.not_mem_nil, or_false] at hm
        rcases hm with e | e | e | e
        · exact dz e
        · exact dTO e
        · exact di1 e
        · exact di2 e
      frame := fun i h₁ h₂ st hk => by
        obtain ⟨hTI, ⟨f0, bb, hz, hf⟩, ⟨a, b, hTO⟩, h1, h2⟩ := st
        exact ⟨hk _ _ (Ne.symm dTI) hTI, ⟨f0, bb, hk _ _ (Ne.symm dz) hz, hf⟩, ⟨a, b, hk _ _ (Ne.symm dTO) hTO⟩, (D1 {} rfl).frame _ _ _ h1 fun b hb o e => hk b o (fun q => df1 (q ▸ hb)) e, (D2 {} rfl).frame _ _ _ h2 fun b hb o e => hk b o (fun q => df2 (q ▸ hb)) e⟩
      item := fun i s₁ Q₁ E₁ hi st hds hQ => by
        obtain ⟨hTI, ⟨f0, bb, hz, hf⟩, ⟨a, b, hTO⟩, h1, h2⟩ := st
        refine wpAny_pyNext_zipN_item S (D1 A.in1 hA) (D2 A.in1 hA) hz hf hTI hTO h1 h2 (Nat.lt_of_lt_of_le hi (Nat.min_le_left ..)) (Nat.lt_of_lt_of_le hi (Nat.min_le_right ..)) fun x1 x2 h' tk p1 p2 z' t' g1 g2 hT hsz hk => ?_
        exact hQ s₁.heap.objs.size _ _ h' tk ⟨p1, p2⟩ (.inl ⟨_, hT, rfl, _, rfl⟩) ⟨hk _ _ S.TIz S.TITO S.TIi1 S.TIi2 hTI, z', t', g1, g2⟩
          fun c o hc e => hk c o (fun x => hc (by simp [x])) (fun x => hc (by simp [x])) (fun x => hc (by simp [x])) (fun x => hc (by simp [x])) e
      done := fun s₁ Q₁ E₁ st hQ => by
        obtain ⟨hTI, ⟨f0, bb, hz, hf⟩, ⟨a, b, hTO⟩, h1, h2⟩ := st
        have hend : min n1 n2 = n1 ∨ min n1 n2 = n2 := by omega
        exact wpAny_pyNext_zipN_end S (D1 A.in1 hA) (D2 A.in1 hA) hz hf hTI hTO h1 h2 (Nat.min_le_left ..) (Nat.min_le_right ..) hend fun h' tk hk => hQ h' tk fun c o hc e =>
          hk c o (fun x => hc (by simp [x])) (fun x => hc (by simp [x])) (fun x => hc (by simp [x])) (fun x => hc (by simp [x])) e }
end
end PD
end

section
/-! PD56: dict(zip(a text, a list or a tuple)), the call. -/
namespace PD
open PySem PySem.Spec PyProof.Rows L2
def keysZ (z : Str) : List Key := z.cps.toList.map fun c => Sum.inr ⟨#[c]⟩
section
variable {X : Cx} {pins : List (Addr × Obj)} {σ : L2.St} {H : Hp} {s : Shared}
theorem seq_draws (I : Inv X pins σ H s) {k : SK} {v : V} {xs : List V} {u : Value} {it : Addr} (hq : SrcV X.K H k v xs) (hk : k ≠ .str) (hv : RelV v u) (hit : s.heap.objs.size ≤ it) :
    ∃ (rest : List Addr) (its : List Value) (St : Nat → Heap → Prop), Vals xs its ∧ (∀ A : Around, A.handled = none → Draws X.prog X.w A it (it :: rest) its.toArray.size (fun i y => its.toArray[i]? = some y) St) ∧
      (∀ h, (∀ c o, s.heap.get? c = some o → h.get? c = some o) → ItSt k u it 0 h → St 0 h) ∧ (∀ b ∈ rest, b < s.heap.objs.size) ∧ (∀ h, St 0 h → ∀ b ∈ it :: rest, ∃ o, h.get? b = some o) ∧ xs.length ≤ sizeLine := by
  cases k with
  | lst =>
    obtain ⟨a, rfl, hq⟩ := hq
    obtain rfl : u = Value.ref a := hv
    obtain ⟨its, r, p, z⟩ := I.list hq
    have hl := p.isList
    obtain ⟨o, n, e1, _⟩ := id p
    have lt : a < s.heap.objs.size := Heap.lt_size e1
    have ne : a ≠ it := Nat.ne_of_lt (Nat.lt_of_lt_of_le lt hit)
    refine ⟨[a], its, _, r, fun A hA => Draws.list hA it a ne its.toArray, fun h kp st => ?_, fun b hb => by rw [List.mem_singleton.mp hb]; exact lt, fun h st b hb => ?_, z⟩
    · obtain ⟨_, e, hit⟩ := st
      cases e
      exact ⟨hit, hl.at fun o e => kp _ o e⟩
    · simp only [List.mem_cons, List.not_mem_nil, or_false] at hb
      rcases hb with rfl | rfl
      · obtain ⟨⟨o, e, _⟩, _⟩ := st; exact ⟨o, e⟩
      · obtain ⟨_, ⟨o, e, _⟩⟩ := st; exact ⟨o, e⟩
  | tup =>
    obtain ⟨a, rfl, hq⟩ := hq
    obtain rfl : u = Value.ref a := hv
    obtain ⟨its, r, p, z⟩ := I.tuple hq
    have lt : a < s.heap.objs.size := p.lt
    have ne : a ≠ it := Nat.ne_of_lt (Nat.lt_of_lt_of_le lt hit)
    refine ⟨[a], its, _, r, fun A hA => Draws.tuple hA it a ne its.toArray, fun h kp st => ?_, fun b hb => by rw [List.mem_singleton.mp hb]; exact lt, fun h st b hb => ?_, z⟩
    · obtain ⟨_, e, hit⟩ := st
      cases e
      exact ⟨hit, p.keeps kp⟩
    · simp only [List.mem_cons, List.not_mem_nil, or_false] at hb
      rcases hb with rfl | rfl
      · obtain ⟨⟨o, e, _⟩, _⟩ := st; exact ⟨o, e⟩
      · obtain ⟨_, ⟨o, e, _⟩⟩ := st; exact ⟨o, e⟩
  | str => exact absurd rfl hk
theorem kv_zip : ∀ {ks : List Key} {ys : List V} {its : List Value}, Vals ys its → KV (ks.zip ys) (ks.zip its)
  | [], _, _, _ => by rw [List.zip_nil_left, List.zip_nil_left]; exact .nil
  | k :: ks, _, _, .nil => by rw [List.zip_nil_right, List.zip_nil_right]; exact .nil
  | k :: ks, _, _, .cons r rs => .cons ⟨rfl, r⟩ (kv_zip rs)
end
/-- dict(zip(a text, a list or a tuple)) -/
def tDz (K : PySem.W.Frag) (ta : TA) : TE := fun σ H Q => ta σ H fun vs H1 => ∃ z v k ys, vs = [.str z, v] ∧ k ≠ SK.str ∧ SrcV K H1 k v ys ∧ ∀ q, H1 q = none → Q (.ref q) (upd H1 q (.dK (mergeK [] ((keysZ z).zip ys))))
section
variable {X : Cx} {a b : Expr} {ta : TA} {p1 p2 pos1 pos2 : Pos}
theorem pe_dz (hc : X.calm = true) (hgd : Gl X "dict") (hmd : X.mg "dict" = none) (hgz : Gl X "zip") (hmz : X.mg "zip" = none) (ha : PA X [a, b] ta)
    (hs : starEach [a, b] X.env = (false, eval a X.env) :: starEach [b] X.env := by rfl) (hpl : (backTo pos2 (starEach [b] X.env)).any (·.1) = false := by rfl)
    (hs1 : starEach [.Call (.Name "zip" p2) [a, b] [] pos2] X.env = [(false, eval (.Call (.Name "zip" p2) [a, b] [] pos2) X.env)] := by rfl) :
    PE X (.Call (.Name "dict" p1) [.Call (.Name "zip" p2) [a, b] [] pos2] [] pos1) (tDz X.K ta) := by
  refine ⟨fun pins s σ H Q I h => Call_ (ld_blt I hgd hmd PyProof.Rows.boot_dict (PyProof.Rows.callWith_type1 ?_ hs1 rfl))⟩
  rw [hs1]
  refine Calls.spliced_cons (thn (Q := fun u s2 => wpAny (model X.prog X.w) X.A (call (.type "dict") [u]) (EP X pins σ Q) X.xe s2) ?_ fun u s2 hu => Calls.spliced_nil hu)
  rw [if_neg (by decide)]
  refine Call_ (ld_blt I hgz hmz PyProof.Rows.boot_zip (PyProof.Rows.callWith_type1 (thn (ha.run pos2 pins s σ H _ I h) fun us s1 ⟨vs, H1, I1, r1, z, v, k, ys, ev, hk, hq, q⟩ => ?_) hs hpl))
  subst ev
  cases r1 with
  | @cons _ u1 _ _ ru1 rr =>
    cases rr with
    | @cons _ u2 _ _ ru2 rr =>
      cases rr
      obtain ⟨t, rfl⟩ := ru1
      have hq1 : SrcV X.K H1 .str (.str z) (signs z) := ⟨z, rfl, rfl⟩
      obtain ⟨o1, Hq1, B1, b1, bl1, bi1⟩ := srcV_begins I1 hq1 (u := .str z t) ⟨t, rfl⟩
      obtain ⟨o2, Hq2, B2, b2, bl2, bi2⟩ := srcV_begins I1 hq ru2
      obtain ⟨rest, its, St, vr, D2, hst, hrest, hth, hz⟩ := seq_draws I1 (it := s1.heap.objs.size + 1) hq hk ru2 (Nat.le_succ _)
      refine zip_begins2 B1 B2 b1 b2 fun h' hz' hTI hTO g1 g2 hsz hkp => ?_
      have S := zip_sep2 (N := s1.heap.objs.size) (fp1 := []) (fp2 := rest) (fun b hb => (by cases hb)) hrest
      have P := pairArg_zip (prog := X.prog) (w := X.w) S (fun A hA => Draws.text hA s1.heap.objs.size z t) D2 (fun h st b hb => by
        rw [List.mem_singleton.mp hb]
        obtain ⟨o, e, _⟩ := st
        exact ⟨o, e⟩) hth
      have hl := vr.length
      have hn : min z.cps.size its.toArray.size ≤ sizeLine := Nat.le_trans (Nat.min_le_right _ _) (by rw [List.size_toArray, ← hl]; exact hz)
      have s1ok := bi1 _ _ g1
      obtain ⟨_, _, ez, s1ok⟩ := s1ok
      cases ez
      refine call_dict_pairs (knd := mixKind X.prog X.w) (kvs := (keysZ z).zip its) P (I1.ok.hd hc) ⟨hz', hTI, ⟨_, _, hTO⟩, s1ok, hst _ hkp (bi2 _ _ g2)⟩ ⟨?_, ?_⟩ hn fun h2 tk hd hk2 => ?_
      · rw [List.length_zip]
        unfold keysZ
        simp
      · rintro i key y ⟨⟨c, u, hc, rfl⟩, hy⟩
        refine ⟨.inr ⟨#[c]⟩, ?_, keyIs_str _ u⟩
        rw [List.getElem?_zip_eq_some]
        refine ⟨?_, by simpa using hy⟩
        unfold keysZ
        rw [List.getElem?_map, Array.getElem?_toList, hc]
        rfl
      · have le : s1.heap.objs.size ≤ h'.objs.size := by rw [hsz]; exact Nat.le_add_right _ _
        have kp : ∀ c o, s1.heap.get? c = some o → h2.get? c = some o := fun c o e => hk2 c o (fun hm => by
          have hc : c < s1.heap.objs.size := Heap.lt_size e
          simp only [List.mem_cons, List.not_mem_nil, or_false] at hm
          rcases hm with x | x | x | x <;> (rw [x] at hc; revert hc; exact Nat.not_lt.mpr (by first | exact Nat.le_add_right _ _ | exact Nat.le_refl _))) (hkp c o e)
        have big : sysModules < s1.heap.objs.size := I1.big
        have hsys : (h'.objs.size == sysModules) = false := beq_eq_false_iff_ne.mpr (Ne.symm (Nat.ne_of_lt (Nat.lt_of_lt_of_le big le)))
        have hlen : (mergeK [] ((keysZ z).zip ys)).length ≤ sizeLine := by
          have h1 := length_mergeK ((keysZ z).zip ys) []
          rw [List.length_nil] at h1
          have h3 : ((keysZ z).zip ys).length ≤ ys.length := by rw [List.length_zip]; exact Nat.min_le_right _ _
          omega
        exact ⟨.ref h'.objs.size, _, I1.laid (t' := tk) kp le (dk_new hlen hsys (KV.merge (kv_zip vr) .nil) hd), rfl, q _ (I1.hok.fresh le)⟩
end
/-- dict(zip(a text, a list or a tuple)), frozen -/
def tDictZ (ta : TAD) : TED := fun σ S Q => ta σ S fun ds S1 => match ds with
  | [.str z, y] => (match asSeq S1 y with
    | some xs => Q (.dic (putAll ((keysZ z).zip xs) [])) S1
    | none => False)
  | _ => False
theorem rdk_zip {K : PySem.W.Frag} {G : Addr → Prop} {S : HD} {H : Hp} : ∀ {ks : List Key} {xs : List D} {ys : List V}, RDs K G S H xs ys → RDk K G S H (rKV (ks.zip xs)) (ks.zip ys)
  | [], _, _, _ => by rw [List.zip_nil_left, List.zip_nil_left]; exact .nil
  | k :: ks, _, _, .nil => by rw [List.zip_nil_right, List.zip_nil_right]; exact .nil
  | k :: ks, _, _, .cons q r => .cons q (rdk_zip r)
theorem de_dictz {X : Cx} {a b : Expr} {ta : TAD} {p1 p2 pos1 pos2 : Pos} (hc : X.calm = true) (hmd : X.mg "dict" = none) (hmz : X.mg "zip" = none) (ha : DA X [a, b] ta) (hgd : Gl X "dict" := by rfl) (hgz : Gl X "zip" := by rfl)
    (hs : starEach [a, b] X.env = (false, eval a X.env) :: starEach [b] X.env := by rfl) (hpl : (backTo pos2 (starEach [b] X.env)).any (·.1) = false := by rfl)
    (hs1 : starEach [.Call (.Name "zip" p2) [a, b] [] pos2] X.env = [(false, eval (.Call (.Name "zip" p2) [a, b] [] pos2) X.env)] := by rfl) :
    DE X (.Call (.Name "dict" p1) [.Call (.Name "zip" p2) [a, b] [] pos2] [] pos1) (tDictZ ta) :=
  (pe_dz hc hgd hmd hgz hmz ha hs hpl hs1).imp fun σ H Q ⟨G, σd, S, Qd, rs, rh, t, p⟩ => ⟨G, σd, S, _, rs, rh, t, fun S1 ds vs H1 f1 rh1 q1 t1 => by
    split at t1
    · rename_i z y
      split at t1
      · rename_i xs ex
        cases q1 with
        | @cons _ v _ _ q r =>
          cases q
          cases r with
          | @cons _ v' _ _ q' r =>
            cases r
            obtain ⟨c, ws, rfl, l, rr⟩ := asSeq_ok rh1 ex q'
            have fin : ∀ q, H1 q = none → Q (.ref q) (upd H1 q (.dK (mergeK [] ((keysZ z).zip ws)))) := fun q hq => by
              obtain ⟨r', f', fz⟩ := rh1.newF hq (.dK (mergeK [] ((keysZ z).zip ws)))
              have rr2 := putAll_rel ((keysZ z).zip xs) (rdk_zip rr) (.nil (K := X.K) (G := G) (S := S1) (H := H1))
              exact p S1 _ _ _ (f1.trans f') r' (.dic ⟨fz, .inl upd_same⟩ (rr2.mv f'.mv)) t1
            rcases l with l | l
            · exact ⟨z, _, .lst, ws, rfl, (fun e => nomatch e), ⟨c, rfl, l⟩, fin⟩
            · exact ⟨z, _, .tup, ws, rfl, (fun e => nomatch e), ⟨c, rfl, l⟩, fin⟩
      · exact t1.elim
    · exact t1.elim⟩
end PD
end

section
namespace K37
open PySem PySem.Spec PyProof.Rows L2 PD
def top (i : Nat) : Stmt := PySem.Challenge.pw_sortedshelves_k37_made_comparisons.main.body.getD i (.Pass ⟨0, 0, 0, 0⟩)
structure Txt (K : PySem.W.Frag) (mg : Str → Option Value) (E_Unlike : Addr) (E_TooGreat : Addr) : Prop where
  x_Unlike : ExcC K mg "Unlike" E_Unlike
  x_TooGreat : ExcC K mg "TooGreat" E_TooGreat
  b_tuple : mg "tuple" = none
  b_dict : mg "dict" = none
  b_zip : mg "zip" = none
  b_len : mg "len" = none
  b_abs : mg "abs" = none
  b_int : mg "int" = none
  b_range : mg "range" = none
  b_repr : mg "repr" = none
  c_LETTERS : ∃ t, mg "LETTERS" = some (.str "abc" t)
  c_END : ∃ t, mg "END" = some (.str "." t)
  c_MAX_STANDS : ∃ t, mg "MAX_STANDS" = some (.int 60 t)
section
variable {P : Program} {w : World} {K : PySem.W.Frag} {mg : Str → Option Value} {base : Heap} {E_Unlike : Addr} {E_TooGreat : Addr}
abbrev s_columns : Stmt := top 8
abbrev N_columns : List Str := ["letters", "signs", "found", "one", "other"]
theorem sc_columns : FnScope N_columns ["letters"] (defScope s_columns) := ⟨rfl, rfl, rfl, by decide +kernel, rfl, by decide +kernel, by decide +kernel⟩
def rd_columns : TSD :=
  sSeqD (sPar2 1 2 (tConsD (tBin rAddD (tSlD (tCD (.str "abc")) (oNone) (oSome (tSlot 0))) (tCD (.str "."))) (tConsD (tLstR (tNilD)) (tNilD))))
  (sSeqD (sForD (iAnyD (tSlot 1)) (gNameD 3) (sDropD (tMethA rExtD (tSlot 2) (tConsD (tLcV (iAnyD (tSlot 1)) (gNameD 4) (tYesD) (tBin rAddD (tSlot 3) (tSlot 4)) [4]) (tNilD)))))
  (sRetD (tCallD rTupleD (tConsD (tSlD (tSlot 2) (oNone) (oSome (tUnD rNeg (tCD (.int 1))))) (tNilD)))))
theorem dv_columns (T : Txt K mg E_Unlike E_TooGreat) (hB : SysB base) {k : Nat} {f : Addr} {cdv : Value} {A : Around} {outer : List Env} {s : Shared} {H : Hp} (hr : RoomG k (A.deeper (envOfC "columns" (defScope s_columns) s.heap.objs.size f cdv))) :
    DSs (cxOf CX0 P w K mg base N_columns "columns" (defScope s_columns) f cdv A outer s H E0).nox (defBody s_columns) (rd_columns) :=
  dss_cons (ds_par 1 2 sc_columns.nd (da_cons (de_add (de_slice (de_gS T.c_LETTERS) (do_none) (do_some (de_slot 0 (pv 0)))) (de_gS T.c_END)) (da_cons (de_lstR (da_nil)) (da_nil))))
    (dss_cons (ds_for PassesOwn.never (di_any (de_slot 1 (pv 1))) (dg_name 3 (pg_name (i := 3) sc_columns.nd rfl (Or.inr rfl))) (dss_one (ds_expr (de_extend (de_slot 2 (pv 2)) (da_cons (de_lcV (own := [("other", 4)]) sc_columns.nd (di_any (de_slot 1 (pv 1))) (blkOk_by (own := [("other", 4)]) (N := N_columns) (sc := defScope s_columns) (by decide +kernel)) (fun _ _ _ _ _ => dgw_name 4 (by decide) (pg_name (i := 4) sc_columns.nd rfl (Or.inl rfl))) (fun _ _ _ _ _ => dts_nil) (fun _ _ _ _ _ => de_add (de_slot 3 (pv 3)) (de_slot 4 (pv 4)))) (da_nil))))))
    (dss_one (ds_ret (de_callTy call_tupleRD T.b_tuple bt_tuple (da_cons (de_slice (de_slot 2 (pv 2)) (do_none) (do_some (de_neg (de_int)))) (da_nil))))))
theorem mk_columns (D : DefOf K mg "columns" s_columns) (T : Txt K mg E_Unlike E_TooGreat) (hB : SysB base) {k : Nat} {sp : SpD} (len : ∀ ds S Q, sp ds S Q → ds.length = 1) (hq : ∀ ds S Qd, sp ds S Qd → rd_columns { nx := fun _ S2 => fin Qd .non S2, rt := fin Qd, bk := fun _ _ => False, ct := fun _ _ => False } (pad 5 ds) S) : Has P w K mg base (k + 1) "columns" ["letters"] sp :=
  let ⟨f, fd, F, hm⟩ := D.ex
  .of F hm (F.binds fun _ _ _ _ _ _ us hl => match us, hl with | [_], _ => rfl) (FnD.of F sc_columns _ len (fun cdv A outer s H hr => dv_columns T hB hr) hq)
abbrev s_first_item : Stmt := top 9
abbrev N_first_item : List Str := ["column", "rank_of", "gap"]
theorem sc_first_item : FnScope N_first_item ["column", "rank_of"] (defScope s_first_item) := ⟨rfl, rfl, rfl, by decide +kernel, rfl, by decide +kernel, by decide +kernel⟩
def rd_first_item : TSD :=
  sSeqD (sIfD (tTst (tBin (rInZ false) (tCD (.str ".")) (tSlot 0))) (sRetD (tIfD (tTst (tBin rEqD (tBin rIxX (tSlot 0) (tCD (.int 0))) (tCD (.str ".")))) (tCD (.int 1)) (tCD (.int 2)))) (sNextD))
  (sSeqD (sAsgD (tBin rSubD (tBin rIxX (tSlot 1) (tBin rIxX (tSlot 0) (tCD (.int 0)))) (tBin rIxX (tSlot 1) (tBin rIxX (tSlot 0) (tCD (.int 1))))) (gNameD 2))
  (sRetD (tIfD (tTst (tBin rEqD (tSlot 2) (tCD (.int 0)))) (tCD (.int 0)) (tIfD (tTst (tBin (rCmpI fLt) (tSlot 2) (tCD (.int 0)))) (tCD (.int 1)) (tCD (.int 2))))))
theorem dv_first_item (T : Txt K mg E_Unlike E_TooGreat) (hB : SysB base) {k : Nat} {f : Addr} {cdv : Value} {A : Around} {outer : List Env} {s : Shared} {H : Hp} (hr : RoomG k (A.deeper (envOfC "first_item" (defScope s_first_item) s.heap.objs.size f cdv))) :
    DSs (cxOf CX0 P w K mg base N_first_item "first_item" (defScope s_first_item) f cdv A outer s H E0).nox (defBody s_first_item) (rd_first_item) :=
  dss_cons (ds_if (dt_inZ hr (de_gS T.c_END) (de_slot 0 (pv 0))) (dss_one (ds_ret (de_if (dt_eq hr hB (de_ixX hr (de_slot 0 (pv 0)) (de_int)) (de_gS T.c_END)) (de_int) (de_int)))) (dss_nil))
    (dss_cons (ds_set 2 sc_first_item.nd (de_sub (de_ixX hr (de_slot 1 (pv 1)) (de_ixX hr (de_slot 0 (pv 0)) (de_int))) (de_ixX hr (de_slot 1 (pv 1)) (de_ixX hr (de_slot 0 (pv 0)) (de_int)))))
    (dss_one (ds_ret (de_if (dt_eq hr hB (de_slot 2 (pv 2)) (de_int)) (de_int) (de_if (dt_lt (de_slot 2 (pv 2)) (de_int)) (de_int) (de_int))))))
theorem mk_first_item (D : DefOf K mg "first_item" s_first_item) (T : Txt K mg E_Unlike E_TooGreat) (hB : SysB base) {k : Nat} {sp : SpD} (len : ∀ ds S Q, sp ds S Q → ds.length = 2) (hq : ∀ ds S Qd, sp ds S Qd → rd_first_item { nx := fun _ S2 => fin Qd .non S2, rt := fin Qd, bk := fun _ _ => False, ct := fun _ _ => False } (pad 3 ds) S) : Has P w K mg base (k + 1) "first_item" ["column", "rank_of"] sp :=
  let ⟨f, fd, F, hm⟩ := D.ex
  .of F hm (F.binds fun _ _ _ _ _ _ us hl => match us, hl with | [_, _], _ => rfl) (FnD.of F sc_first_item _ len (fun cdv A outer s H hr => dv_first_item T hB hr) hq)
abbrev s_by_ranks : Stmt := top 10
abbrev N_by_ranks : List Str := ["letters", "ranks", "rank_of", "wide", "first", "column"]
theorem sc_by_ranks : FnScope N_by_ranks ["letters", "ranks"] (defScope s_by_ranks) := ⟨rfl, rfl, rfl, by decide +kernel, rfl, by decide +kernel, by decide +kernel⟩
def rd_by_ranks (sp_columns : SpD) (sp_first_item : SpD) : TSD :=
  sSeqD (sAsgD (tTupD (tConsD (tDictZ (tConsD (tCD (.str "abc")) (tConsD (tSlot 1) (tNilD)))) (tConsD (tCallD rLenD (tConsD (tCallD sp_columns (tConsD (tSlot 0) (tNilD))) (tNilD))) (tNilD)))) (gTupD 2 (gConsD (gNameD 2) (gConsD (gNameD 3) (gNilD)))))
  (sSeqD (sAsgD (tCallD rTupleD (tConsD (tLcV (iAnyD (tCallD sp_columns (tConsD (tSlot 0) (tNilD)))) (gNameD 5) (tYesD) (tCallD sp_first_item (tConsD (tSlot 5) (tConsD (tSlot 2) (tNilD)))) [5]) (tNilD))) (gNameD 4))
  (sRetD (tTupD (tConsD (tSlot 0) (tConsD (tTupD (tConsD (tSlot 4) (tConsD (tBin rMulD (tTupD (tConsD (tCD (.int 1)) (tNilD))) (tSlot 3)) (tConsD (tBin rMulD (tTupD (tConsD (tCD (.int 2)) (tNilD))) (tSlot 3)) (tNilD))))) (tConsD (tTupD (tConsD (tCD (.int 0)) (tConsD (tUnD rNeg (tCD (.int 1))) (tConsD (tCD (.int 1)) (tNilD))))) (tNilD)))))))
theorem dv_by_ranks (T : Txt K mg E_Unlike E_TooGreat) (hB : SysB base) {k : Nat} {f : Addr} {cdv : Value} {A : Around} {outer : List Env} {s : Shared} {H : Hp} (hr : RoomG k (A.deeper (envOfC "by_ranks" (defScope s_by_ranks) s.heap.objs.size f cdv))) {sp_columns : SpD} (h_columns : Has P w K mg base k "columns" ["letters"] sp_columns) {sp_first_item : SpD} (h_first_item : Has P w K mg base k "first_item" ["column", "rank_of"] sp_first_item) :
    DSs (cxOf CX0 P w K mg base N_by_ranks "by_ranks" (defScope s_by_ranks) f cdv A outer s H E0).nox (defBody s_by_ranks) (rd_by_ranks sp_columns sp_first_item) :=
  dss_cons (ds_asg (de_tup (da_cons (de_dictz rfl T.b_dict T.b_zip (da_cons (de_gS T.c_LETTERS) (da_cons (de_slot 1 (pv 1)) (da_nil)))) (da_cons (de_callB call_lenRD T.b_len bt_len (da_cons (de_call h_columns hr (da_cons (de_slot 0 (pv 0)) (da_nil))) (da_nil))) (da_nil)))) (dg_tup rfl (dgs_cons (dg_name 2 (pg_name (i := 2) sc_by_ranks.nd rfl (Or.inr rfl))) (dgs_cons (dg_name 3 (pg_name (i := 3) sc_by_ranks.nd rfl (Or.inl rfl))) (dgs_nil)))))
    (dss_cons (ds_set 4 sc_by_ranks.nd (de_callTy call_tupleRD T.b_tuple bt_tuple (da_cons (de_lcV (own := [("column", 5)]) sc_by_ranks.nd (di_any (de_call h_columns hr (da_cons (de_slot 0 (pv 0)) (da_nil)))) (blkOk_by (own := [("column", 5)]) (N := N_by_ranks) (sc := defScope s_by_ranks) (by decide +kernel)) (fun _ _ _ _ _ => dgw_name 5 (by decide) (pg_name (i := 5) sc_by_ranks.nd rfl (Or.inl rfl))) (fun _ _ _ _ _ => dts_nil) (fun _ _ _ _ _ => de_call h_first_item hr (da_cons (de_slot 5 (pv 5)) (da_cons (de_slot 2 (pv 2)) (da_nil))))) (da_nil))))
    (dss_one (ds_ret (de_tup (da_cons (de_slot 0 (pv 0)) (da_cons (de_tup (da_cons (de_slot 4 (pv 4)) (da_cons (de_mul (de_tup (da_cons (de_int) (da_nil))) (de_slot 3 (pv 3))) (da_cons (de_mul (de_tup (da_cons (de_int) (da_nil))) (de_slot 3 (pv 3))) (da_nil))))) (da_cons (de_tup (da_cons (de_int) (da_cons (de_neg (de_int)) (da_cons (de_int) (da_nil))))) (da_nil))))))))
theorem mk_by_ranks (D : DefOf K mg "by_ranks" s_by_ranks) (T : Txt K mg E_Unlike E_TooGreat) (hB : SysB base) {k : Nat} {sp_columns : SpD} (h_columns : Has P w K mg base k "columns" ["letters"] sp_columns) {sp_first_item : SpD} (h_first_item : Has P w K mg base k "first_item" ["column", "rank_of"] sp_first_item) {sp : SpD} (len : ∀ ds S Q, sp ds S Q → ds.length = 2) (hq : ∀ ds S Qd, sp ds S Qd → rd_by_ranks sp_columns sp_first_item { nx := fun _ S2 => fin Qd .non S2, rt := fin Qd, bk := fun _ _ => False, ct := fun _ _ => False } (pad 6 ds) S) : Has P w K mg base (k + 1) "by_ranks" ["letters", "ranks"] sp :=
  let ⟨f, fd, F, hm⟩ := D.ex
  .of F hm (F.binds fun _ _ _ _ _ _ us hl => match us, hl with | [_, _], _ => rfl) (FnD.of F sc_by_ranks _ len (fun cdv A outer s H hr => dv_by_ranks T hB hr h_columns h_first_item) hq)
abbrev s_by_length : Stmt := top 11
abbrev N_by_length : List Str := ["letters"]
theorem sc_by_length : FnScope N_by_length ["letters"] (defScope s_by_length) := ⟨rfl, rfl, rfl, by decide +kernel, rfl, by decide +kernel, by decide +kernel⟩
def rd_by_length (sp_by_ranks : SpD) : TSD :=
  sRetD (tCallD sp_by_ranks (tConsD (tSlot 0) (tConsD (tBin rMulD (tTupD (tConsD (tCD (.int 0)) (tNilD))) (tSlot 0)) (tNilD))))
theorem dv_by_length (T : Txt K mg E_Unlike E_TooGreat) (hB : SysB base) {k : Nat} {f : Addr} {cdv : Value} {A : Around} {outer : List Env} {s : Shared} {H : Hp} (hr : RoomG k (A.deeper (envOfC "by_length" (defScope s_by_length) s.heap.objs.size f cdv))) {sp_by_ranks : SpD} (h_by_ranks : Has P w K mg base k "by_ranks" ["letters", "ranks"] sp_by_ranks) :
    DSs (cxOf CX0 P w K mg base N_by_length "by_length" (defScope s_by_length) f cdv A outer s H E0).nox (defBody s_by_length) (rd_by_length sp_by_ranks) :=
  dss_one (ds_ret (de_call h_by_ranks hr (da_cons (de_slot 0 (pv 0)) (da_cons (de_mul (de_tup (da_cons (de_int) (da_nil))) (de_slot 0 (pv 0))) (da_nil)))))
theorem mk_by_length (D : DefOf K mg "by_length" s_by_length) (T : Txt K mg E_Unlike E_TooGreat) (hB : SysB base) {k : Nat} {sp_by_ranks : SpD} (h_by_ranks : Has P w K mg base k "by_ranks" ["letters", "ranks"] sp_by_ranks) {sp : SpD} (len : ∀ ds S Q, sp ds S Q → ds.length = 1) (hq : ∀ ds S Qd, sp ds S Qd → rd_by_length sp_by_ranks { nx := fun _ S2 => fin Qd .non S2, rt := fin Qd, bk := fun _ _ => False, ct := fun _ _ => False } (pad 1 ds) S) : Has P w K mg base (k + 1) "by_length" ["letters"] sp :=
  let ⟨f, fd, F, hm⟩ := D.ex
  .of F hm (F.binds fun _ _ _ _ _ _ us hl => match us, hl with | [_], _ => rfl) (FnD.of F sc_by_length _ len (fun cdv A outer s H hr => dv_by_length T hB hr h_by_ranks) hq)
abbrev s_turned : Stmt := top 12
abbrev N_turned : List Str := ["comp", "verdict"]
theorem sc_turned : FnScope N_turned ["comp"] (defScope s_turned) := ⟨rfl, rfl, rfl, by decide +kernel, rfl, by decide +kernel, by decide +kernel⟩
def rd_turned : TSD :=
  sRetD (tTupD (tConsD (tBin rIxX (tSlot 0) (tCD (.int 0))) (tConsD (tBin rIxX (tSlot 0) (tCD (.int 1))) (tConsD (tCallD rTupleD (tConsD (tLcV (iAnyD (tBin rIxX (tSlot 0) (tCD (.int 2)))) (gNameD 1) (tYesD) (tBin rSubD (tCD (.int 0)) (tSlot 1)) [1]) (tNilD))) (tNilD)))))
theorem dv_turned (T : Txt K mg E_Unlike E_TooGreat) (hB : SysB base) {k : Nat} {f : Addr} {cdv : Value} {A : Around} {outer : List Env} {s : Shared} {H : Hp} (hr : RoomG k (A.deeper (envOfC "turned" (defScope s_turned) s.heap.objs.size f cdv))) :
    DSs (cxOf CX0 P w K mg base N_turned "turned" (defScope s_turned) f cdv A outer s H E0).nox (defBody s_turned) (rd_turned) :=
  dss_one (ds_ret (de_tup (da_cons (de_ixX hr (de_slot 0 (pv 0)) (de_int)) (da_cons (de_ixX hr (de_slot 0 (pv 0)) (de_int)) (da_cons (de_callTy call_tupleRD T.b_tuple bt_tuple (da_cons (de_lcV (own := [("verdict", 1)]) sc_turned.nd (di_any (de_ixX hr (de_slot 0 (pv 0)) (de_int))) (blkOk_by (own := [("verdict", 1)]) (N := N_turned) (sc := defScope s_turned) (by decide +kernel)) (fun _ _ _ _ _ => dgw_name 1 (by decide) (pg_name (i := 1) sc_turned.nd rfl (Or.inl rfl))) (fun _ _ _ _ _ => dts_nil) (fun _ _ _ _ _ => de_sub (de_int) (de_slot 1 (pv 1)))) (da_nil))) (da_nil))))))
theorem mk_turned (D : DefOf K mg "turned" s_turned) (T : Txt K mg E_Unlike E_TooGreat) (hB : SysB base) {k : Nat} {sp : SpD} (len : ∀ ds S Q, sp ds S Q → ds.length = 1) (hq : ∀ ds S Qd, sp ds S Qd → rd_turned { nx := fun _ S2 => fin Qd .non S2, rt := fin Qd, bk := fun _ _ => False, ct := fun _ _ => False } (pad 2 ds) S) : Has P w K mg base (k + 1) "turned" ["comp"] sp :=
  let ⟨f, fd, F, hm⟩ := D.ex
  .of F hm (F.binds fun _ _ _ _ _ _ us hl => match us, hl with | [_], _ => rfl) (FnD.of F sc_turned _ len (fun cdv A outer s H hr => dv_turned T hB hr) hq)
abbrev s_pairs_from : Stmt := top 13
abbrev N_pairs_from : List Str := ["one", "other", "numbers", "pairs", "rows", "row", "pair"]
theorem sc_pairs_from : FnScope N_pairs_from ["one", "other"] (defScope s_pairs_from) := ⟨rfl, rfl, rfl, by decide +kernel, rfl, by decide +kernel, by decide +kernel⟩
def rd_pairs_from (w : World) : TSD :=
  sSeqD (sPar3 2 3 4 (tConsD (tDisp1T w (tTupD (tConsD (tCD (.int 0)) (tConsD (tCD (.int 0)) (tNilD)))) (tCD (.int 0))) (tConsD (tLstR (tConsD (tTupD (tConsD (tCD (.int 0)) (tConsD (tCD (.int 0)) (tNilD)))) (tNilD))) (tConsD (tLstR (tNilD)) (tNilD)))))
  (sSeqD (sWhileD (tTst (tBin (rCmpI fLt) (tCallD (rLenW w) (tConsD (tSlot 4) (tNilD))) (tCallD (rLenW w) (tConsD (tSlot 3) (tNilD))))) (sSeqD (sAsgD (tLstR (tNilD)) (gNameD 5))
  (sSeqD (sForD (iZipD (tConsD (tBin (rIxW w) (tBin (rIxW w) (tSlot 0) (tCD (.int 1))) (tBin (rIxW w) (tBin (rIxW w) (tSlot 3) (tCallD (rLenW w) (tConsD (tSlot 4) (tNilD)))) (tCD (.int 0)))) (tConsD (tBin (rIxW w) (tBin (rIxW w) (tSlot 1) (tCD (.int 1))) (tBin (rIxW w) (tBin (rIxW w) (tSlot 3) (tCallD (rLenW w) (tConsD (tSlot 4) (tNilD)))) (tCD (.int 1)))) (tNilD)))) (gNameD 6) (sSeqD (sIfD (tTst (tBin (rInW w true) (tSlot 6) (tSlot 2))) (sSeqD (sAsgD (tCallD (rLenW w) (tConsD (tSlot 3) (tNilD))) (gSubW w (tSlot 2) (tSlot 6)))
  (sDropD (tMethL rAppD (tSlot 3) (tConsD (tSlot 6) (tNilD))))) (sNextD))
  (sDropD (tMethL rAppD (tSlot 5) (tConsD (tBin (rIxW w) (tSlot 2) (tSlot 6)) (tNilD))))))
  (sDropD (tMethL rAppD (tSlot 4) (tConsD (tCallD rTupleD (tConsD (tSlot 5) (tNilD))) (tNilD)))))))
  (sRetD (tTupD (tConsD (tSlot 3) (tConsD (tSlot 4) (tNilD))))))
theorem dv_pairs_from (T : Txt K mg E_Unlike E_TooGreat) (hB : SysB base) {k : Nat} {f : Addr} {cdv : Value} {A : Around} {outer : List Env} {s : Shared} {H : Hp} (hr : RoomG k (A.deeper (envOfC "pairs_from" (defScope s_pairs_from) s.heap.objs.size f cdv))) :
    DSs (cxOf CX0 P w K mg base N_pairs_from "pairs_from" (defScope s_pairs_from) f cdv A outer s H E0).nox (defBody s_pairs_from) (rd_pairs_from w) :=
  dss_cons (ds_par3 2 3 4 sc_pairs_from.nd (da_cons (de_disp1 hr (de_tup (da_cons (de_int) (da_cons (de_int) (da_nil)))) (de_int)) (da_cons (de_lstR (da_cons (de_tup (da_cons (de_int) (da_cons (de_int) (da_nil)))) (da_nil))) (da_cons (de_lstR (da_nil)) (da_nil)))))
    (dss_cons (ds_while PassesOwn.never (dt_lt (de_callB call_lenW T.b_len bt_len (da_cons (de_slot 4 (pv 4)) (da_nil))) (de_callB call_lenW T.b_len bt_len (da_cons (de_slot 3 (pv 3)) (da_nil)))) (dss_cons (ds_set 5 sc_pairs_from.nd (de_lstR (da_nil)))
    (dss_cons (ds_for PassesOwn.never (di_zipN T.b_zip (da_cons (de_ixW hr (de_ixW hr (de_slot 0 (pv 0)) (de_int)) (de_ixW hr (de_ixW hr (de_slot 3 (pv 3)) (de_callB call_lenW T.b_len bt_len (da_cons (de_slot 4 (pv 4)) (da_nil)))) (de_int))) (da_cons (de_ixW hr (de_ixW hr (de_slot 1 (pv 1)) (de_int)) (de_ixW hr (de_ixW hr (de_slot 3 (pv 3)) (de_callB call_lenW T.b_len bt_len (da_cons (de_slot 4 (pv 4)) (da_nil)))) (de_int))) (da_nil)))) (dg_name 6 (pg_name (i := 6) sc_pairs_from.nd rfl (Or.inl rfl))) (dss_cons (ds_if (dt_notInW hr (de_slot 6 (pv 6)) (de_slot 2 (pv 2))) (dss_cons (ds_asg (de_callB call_lenW T.b_len bt_len (da_cons (de_slot 3 (pv 3)) (da_nil))) (dg_subW hr (de_slot 2 (pv 2)) (de_slot 6 (pv 6))))
    (dss_one (ds_expr (de_append (de_slot 3 (pv 3)) (da_cons (de_slot 6 (pv 6)) (da_nil)))))) (dss_nil))
    (dss_one (ds_expr (de_append (de_slot 5 (pv 5)) (da_cons (de_ixW hr (de_slot 2 (pv 2)) (de_slot 6 (pv 6))) (da_nil)))))))
    (dss_one (ds_expr (de_append (de_slot 4 (pv 4)) (da_cons (de_callTy call_tupleRD T.b_tuple bt_tuple (da_cons (de_slot 5 (pv 5)) (da_nil))) (da_nil))))))))
    (dss_one (ds_ret (de_tup (da_cons (de_slot 3 (pv 3)) (da_cons (de_slot 4 (pv 4)) (da_nil)))))))
theorem mk_pairs_from (D : DefOf K mg "pairs_from" s_pairs_from) (T : Txt K mg E_Unlike E_TooGreat) (hB : SysB base) {k : Nat} {sp : SpD} (len : ∀ ds S Q, sp ds S Q → ds.length = 2) (hq : ∀ ds S Qd, sp ds S Qd → rd_pairs_from w { nx := fun _ S2 => fin Qd .non S2, rt := fin Qd, bk := fun _ _ => False, ct := fun _ _ => False } (pad 7 ds) S) : Has P w K mg base (k + 1) "pairs_from" ["one", "other"] sp :=
  let ⟨f, fd, F, hm⟩ := D.ex
  .of F hm (F.binds fun _ _ _ _ _ _ us hl => match us, hl with | [_, _], _ => rfl) (FnD.of F sc_pairs_from _ len (fun cdv A outer s H hr => dv_pairs_from T hB hr) hq)
abbrev s_then : Stmt := top 14
abbrev N_then : List Str := ["one", "other", "pairs", "rows", "verdicts", "p", "q"]
theorem sc_then : FnScope N_then ["one", "other"] (defScope s_then) := ⟨rfl, rfl, rfl, by decide +kernel, rfl, by decide +kernel, by decide +kernel⟩
def rd_then (E_Unlike : Addr) (E_TooGreat : Addr) (sp_pairs_from : SpD) : TSD :=
  sSeqD (sIfD (tTst (tBin rNeD (tBin rIxX (tSlot 0) (tCD (.int 0))) (tBin rIxX (tSlot 1) (tCD (.int 0))))) (sRaiseD E_Unlike) (sNextD))
  (sSeqD (sAsgD (tCallD sp_pairs_from (tConsD (tSlot 0) (tConsD (tSlot 1) (tNilD)))) (gTupD 2 (gConsD (gNameD 2) (gConsD (gNameD 3) (gNilD)))))
  (sSeqD (sIfD (tTst (tBin (rCmpI fGt) (tCallD rLenD (tConsD (tSlot 2) (tNilD))) (tCD (.int 60)))) (sRaiseD E_TooGreat) (sNextD))
  (sSeqD (sAsgD (tLcV (iAnyD (tSlot 2)) (gTupD 2 (gConsD (gNameD 5) (gConsD (gNameD 6) (gNilD)))) (tYesD) (tIfD (tTst (tBin rNeD (tBin rIxX (tBin rIxX (tSlot 0) (tCD (.int 2))) (tSlot 5)) (tCD (.int 0)))) (tBin rIxX (tBin rIxX (tSlot 0) (tCD (.int 2))) (tSlot 5)) (tBin rIxX (tBin rIxX (tSlot 1) (tCD (.int 2))) (tSlot 6))) [5, 6]) (gNameD 4))
  (sRetD (tTupD (tConsD (tBin rIxX (tSlot 0) (tCD (.int 0))) (tConsD (tCallD rTupleD (tConsD (tSlot 3) (tNilD))) (tConsD (tCallD rTupleD (tConsD (tSlot 4) (tNilD))) (tNilD)))))))))
theorem dv_then (T : Txt K mg E_Unlike E_TooGreat) (hB : SysB base) {k : Nat} {f : Addr} {cdv : Value} {A : Around} {outer : List Env} {s : Shared} {H : Hp} {E : XK} (hr : RoomG k (A.deeper (envOfC "then" (defScope s_then) s.heap.objs.size f cdv))) {sp_pairs_from : SpD} (h_pairs_from : Has P w K mg base k "pairs_from" ["one", "other"] sp_pairs_from) :
    DSs (cxOf (L2.CX P w) P w K mg base N_then "then" (defScope s_then) f cdv A outer s H E) (defBody s_then) (rd_then E_Unlike E_TooGreat sp_pairs_from) :=
  dss_cons (ds_if (dt_ne hr hB (de_ixX hr (de_slot 0 (pv 0)) (de_int)) (de_ixX hr (de_slot 1 (pv 1)) (de_int))) (dss_one (ds_raise T.x_Unlike)) (dss_nil))
    (dss_cons (ds_asg (de_call h_pairs_from hr (da_cons (de_slot 0 (pv 0)) (da_cons (de_slot 1 (pv 1)) (da_nil)))) (dg_tup rfl (dgs_cons (dg_name 2 (pg_name (i := 2) sc_then.nd rfl (Or.inl rfl))) (dgs_cons (dg_name 3 (pg_name (i := 3) sc_then.nd rfl (Or.inl rfl))) (dgs_nil)))))
    (dss_cons (ds_if (dt_gt (de_callB call_lenRD T.b_len bt_len (da_cons (de_slot 2 (pv 2)) (da_nil))) (de_gI T.c_MAX_STANDS)) (dss_one (ds_raise T.x_TooGreat)) (dss_nil))
    (dss_cons (ds_setLcV 4 (own := [("p", 5), ("q", 6)]) sc_then.nd (di_any (de_slot 2 (pv 2))) (blkOk_by (own := [("p", 5), ("q", 6)]) (N := N_then) (sc := defScope s_then) (by decide +kernel)) (fun _ _ _ _ _ => dgw_tup rfl (dgsw_cons (dgw_name 5 (by decide) (pg_name (i := 5) sc_then.nd rfl (Or.inl rfl))) (dgsw_cons (dgw_name 6 (by decide) (pg_name (i := 6) sc_then.nd rfl (Or.inl rfl))) (dgsw_nil)))) (fun _ _ _ _ _ => dts_nil) (fun _ _ _ _ _ => de_if (dt_ne hr hB (de_ixX hr (de_ixX hr (de_slot 0 (pv 0)) (de_int)) (de_slot 5 (pv 5))) (de_int)) (de_ixX hr (de_ixX hr (de_slot 0 (pv 0)) (de_int)) (de_slot 5 (pv 5))) (de_ixX hr (de_ixX hr (de_slot 1 (pv 1)) (de_int)) (de_slot 6 (pv 6)))))
    (dss_one (ds_ret (de_tup (da_cons (de_ixX hr (de_slot 0 (pv 0)) (de_int)) (da_cons (de_callTy call_tupleRD T.b_tuple bt_tuple (da_cons (de_slot 3 (pv 3)) (da_nil))) (da_cons (de_callTy call_tupleRD T.b_tuple bt_tuple (da_cons (de_slot 4 (pv 4)) (da_nil))) (da_nil))))))))))
theorem mk_then (D : DefOf K mg "then" s_then) (T : Txt K mg E_Unlike E_TooGreat) (hB : SysB base) {k : Nat} {sp_pairs_from : SpD} (h_pairs_from : Has P w K mg base k "pairs_from" ["one", "other"] sp_pairs_from) {sp : SpX} (len : ∀ ds S Q Y, sp ds S Q Y → ds.length = 2) (hq : ∀ ds S Qd Xd, sp ds S Qd Xd → rd_then E_Unlike E_TooGreat sp_pairs_from { nx := fun _ S2 => fin Qd .non S2, rt := fin Qd, xr := fun C _ S2 => finX Xd C S2 } (pad 7 ds) S) : HasX P w K mg base (k + 1) "then" ["one", "other"] sp :=
  let ⟨f, fd, F, hm⟩ := D.ex
  .of F hm (F.binds fun _ _ _ _ _ _ us hl => match us, hl with | [_, _], _ => rfl) (FnX.of F sc_then _ len (fun cdv A outer s H E hr => dv_then T hB hr h_pairs_from) hq)
abbrev s__law_deck : Stmt := top 16
abbrev N__law_deck : List Str := ["_law_script", "_law_cell"]
theorem sc__law_deck : FnScope N__law_deck ["_law_script"] (defScope s__law_deck) := ⟨rfl, rfl, rfl, by decide +kernel, rfl, by decide +kernel, by decide +kernel⟩
def rd__law_deck : TSD :=
  sRetD (tLstR (tConsD (tLcR (iSeqD (tSlD (tSlot 0) (oNone) (oSome (tCD (.int 63))))) (gNameD 1) (tYesD) (tCallD rAbsD (tConsD (tSlot 1) (tNilD))) [1]) (tConsD (tCD (.int 0)) (tNilD))))
theorem dv__law_deck (T : Txt K mg E_Unlike E_TooGreat) (hB : SysB base) {k : Nat} {f : Addr} {cdv : Value} {A : Around} {outer : List Env} {s : Shared} {H : Hp} (hr : RoomG k (A.deeper (envOfC "_law_deck" (defScope s__law_deck) s.heap.objs.size f cdv))) :
    DSs (cxOf CX0 P w K mg base N__law_deck "_law_deck" (defScope s__law_deck) f cdv A outer s H E0).nox (defBody s__law_deck) (rd__law_deck) :=
  dss_one (ds_ret (de_lstR (da_cons (de_lcR (own := [("_law_cell", 1)]) sc__law_deck.nd (di_seq (de_slice (de_slot 0 (pv 0)) (do_none) (do_some (de_int)))) (blkOk_by (own := [("_law_cell", 1)]) (N := N__law_deck) (sc := defScope s__law_deck) (by decide +kernel)) (fun _ _ _ _ _ => dgw_name 1 (by decide) (pg_name (i := 1) sc__law_deck.nd rfl (Or.inl rfl))) (fun _ _ _ _ _ => dts_nil) (fun _ _ _ _ _ => de_callB call_absRD T.b_abs bt_abs (da_cons (de_slot 1 (pv 1)) (da_nil)))) (da_cons (de_int) (da_nil)))))
theorem mk__law_deck (D : DefOf K mg "_law_deck" s__law_deck) (T : Txt K mg E_Unlike E_TooGreat) (hB : SysB base) {k : Nat} (ok : DeckOk rd__law_deck 2) : Has P w K mg base (k + 1) "_law_deck" ["_law_script"] spDeck :=
  let ⟨f, fd, F, hm⟩ := D.ex
  .of F hm (F.binds fun _ _ _ _ _ _ us hl => match us, hl with | [_], _ => rfl) (FnD.deck F sc__law_deck _ (fun cdv A outer s H hr => dv__law_deck T hB hr) ok)
abbrev s__law_draw : Stmt := top 17
abbrev N__law_draw : List Str := ["_law_deck_here", "_law_most", "_law_cell", "_law_at", "_law_mixed"]
theorem sc__law_draw : FnScope N__law_draw ["_law_deck_here", "_law_most"] (defScope s__law_draw) := ⟨rfl, rfl, rfl, by decide +kernel, rfl, by decide +kernel, by decide +kernel⟩
def rd__law_draw : TSD :=
  sSeqD (sAsgD (tBin rAddD (tBin rIxD (tSlot 0) (tCD (.int 1))) (tCD (.int 1))) (gSubD (tSlot 0) (tCD (.int 1))))
  (sSeqD (sAsgD (tTupD (tConsD (tCD (.int 0)) (tConsD (tUnD rNeg (tCD (.int 1))) (tNilD)))) (gTupD 2 (gConsD (gNameD 2) (gConsD (gNameD 3) (gNilD)))))
  (sSeqD (sIfD (tTst (tBin (rCmpI fGt) (tCallD rLenD (tConsD (tBin rIxD (tSlot 0) (tCD (.int 0))) (tNilD))) (tCD (.int 0)))) (sSeqD (sAsgD (tBin rModD (tCallD rIntD (tConsD (tBin rIxD (tSlot 0) (tCD (.int 1))) (tNilD))) (tCallD rLenD (tConsD (tBin rIxD (tSlot 0) (tCD (.int 0))) (tNilD)))) (gNameD 3))
  (sAsgD (tBin rIxD (tBin rIxD (tSlot 0) (tCD (.int 0))) (tSlot 3)) (gNameD 2))) (sNextD))
  (sSeqD (sIfD (tTst (tBin (rCmpI fGe) (tSlot 2) (tBin rPowD (tCD (.int 10)) (tCD (.int 18))))) (sSeqD (sAsgD (tBin rFdivD (tCallD rIntD (tConsD (tSlot 2) (tNilD))) (tSlot 1)) (gSubD (tBin rIxD (tSlot 0) (tCD (.int 0))) (tSlot 3)))
  (sRetD (tBin rModD (tCallD rIntD (tConsD (tSlot 2) (tNilD))) (tSlot 1)))) (sNextD))
  (sSeqD (sAsgD (tBin rAddD (tBin rAddD (tBin rModD (tCallD rIntD (tConsD (tSlot 2) (tNilD))) (tCD (.int 2147483179))) (tBin rMulD (tCD (.int 5501)) (tBin rIxD (tSlot 0) (tCD (.int 1))))) (tCD (.int 29))) (gNameD 4))
  (sRetD (tBin rModD (tCallD rIntD (tConsD (tBin rModD (tCallD rIntD (tConsD (tBin rPowD (tSlot 4) (tCD (.int 5))) (tNilD))) (tCD (.int 2147483423))) (tNilD))) (tSlot 1)))))))
theorem dv__law_draw (T : Txt K mg E_Unlike E_TooGreat) (hB : SysB base) {k : Nat} {f : Addr} {cdv : Value} {A : Around} {outer : List Env} {s : Shared} {H : Hp} (hr : RoomG k (A.deeper (envOfC "_law_draw" (defScope s__law_draw) s.heap.objs.size f cdv))) :
    DSs (cxOf CX0 P w K mg base N__law_draw "_law_draw" (defScope s__law_draw) f cdv A outer s H E0).nox (defBody s__law_draw) (rd__law_draw) :=
  dss_cons (ds_asg (de_add (de_ix (de_slot 0 (pv 0)) (de_int)) (de_int)) (dg_sub (de_slot 0 (pv 0)) (de_int)))
    (dss_cons (ds_asg (de_tup (da_cons (de_int) (da_cons (de_neg (de_int)) (da_nil)))) (dg_tup rfl (dgs_cons (dg_name 2 (pg_name (i := 2) sc__law_draw.nd rfl (Or.inl rfl))) (dgs_cons (dg_name 3 (pg_name (i := 3) sc__law_draw.nd rfl (Or.inl rfl))) (dgs_nil)))))
    (dss_cons (ds_if (dt_gt (de_callB call_lenRD T.b_len bt_len (da_cons (de_ix (de_slot 0 (pv 0)) (de_int)) (da_nil))) (de_int)) (dss_cons (ds_set 3 sc__law_draw.nd (de_mod (de_callTy call_intRD T.b_int bt_int (da_cons (de_ix (de_slot 0 (pv 0)) (de_int)) (da_nil))) (de_callB call_lenRD T.b_len bt_len (da_cons (de_ix (de_slot 0 (pv 0)) (de_int)) (da_nil)))))
    (dss_one (ds_set 2 sc__law_draw.nd (de_ix (de_ix (de_slot 0 (pv 0)) (de_int)) (de_slot 3 (pv 3)))))) (dss_nil))
    (dss_cons (ds_if (dt_ge (de_slot 2 (pv 2)) (de_pow (de_int) (de_int))) (dss_cons (ds_asg (de_fdiv (de_callTy call_intRD T.b_int bt_int (da_cons (de_slot 2 (pv 2)) (da_nil))) (de_slot 1 (pv 1))) (dg_sub (de_ix (de_slot 0 (pv 0)) (de_int)) (de_slot 3 (pv 3))))
    (dss_one (ds_ret (de_mod (de_callTy call_intRD T.b_int bt_int (da_cons (de_slot 2 (pv 2)) (da_nil))) (de_slot 1 (pv 1)))))) (dss_nil))
    (dss_cons (ds_set 4 sc__law_draw.nd (de_add (de_add (de_mod (de_callTy call_intRD T.b_int bt_int (da_cons (de_slot 2 (pv 2)) (da_nil))) (de_int)) (de_mul (de_int) (de_ix (de_slot 0 (pv 0)) (de_int)))) (de_int)))
    (dss_one (ds_ret (de_mod (de_callTy call_intRD T.b_int bt_int (da_cons (de_mod (de_callTy call_intRD T.b_int bt_int (da_cons (de_pow (de_slot 4 (pv 4)) (de_int)) (da_nil))) (de_int)) (da_nil))) (de_slot 1 (pv 1)))))))))
theorem mk__law_draw (D : DefOf K mg "_law_draw" s__law_draw) (T : Txt K mg E_Unlike E_TooGreat) (hB : SysB base) {k : Nat} (ok : DrawOk rd__law_draw 5) : Has P w K mg base (k + 1) "_law_draw" ["_law_deck_here", "_law_most"] spDraw :=
  let ⟨f, fd, F, hm⟩ := D.ex
  .of F hm (F.binds fun _ _ _ _ _ _ us hl => match us, hl with | [_, _], _ => rfl) (FnD.draw F sc__law_draw _ (fun cdv A outer s H hr => dv__law_draw T hB hr) ok)
abbrev s__law_one : Stmt := top 18
abbrev N__law_one : List Str := ["_law_deck_here", "_law_items"]
theorem sc__law_one : FnScope N__law_one ["_law_deck_here", "_law_items"] (defScope s__law_one) := ⟨rfl, rfl, rfl, by decide +kernel, rfl, by decide +kernel, by decide +kernel⟩
def rd__law_one (sp__law_draw : SpD) : TSD :=
  sRetD (tBin rIxD (tSlot 1) (tCallD sp__law_draw (tConsD (tSlot 0) (tConsD (tCallD rLenD (tConsD (tSlot 1) (tNilD))) (tNilD)))))
theorem dv__law_one (T : Txt K mg E_Unlike E_TooGreat) (hB : SysB base) {k : Nat} {f : Addr} {cdv : Value} {A : Around} {outer : List Env} {s : Shared} {H : Hp} (hr : RoomG k (A.deeper (envOfC "_law_one" (defScope s__law_one) s.heap.objs.size f cdv))) {sp__law_draw : SpD} (h__law_draw : Has P w K mg base k "_law_draw" ["_law_deck_here", "_law_most"] sp__law_draw) :
    DSs (cxOf CX0 P w K mg base N__law_one "_law_one" (defScope s__law_one) f cdv A outer s H E0).nox (defBody s__law_one) (rd__law_one sp__law_draw) :=
  dss_one (ds_ret (de_ix (de_slot 1 (pv 1)) (de_call h__law_draw hr (da_cons (de_slot 0 (pv 0)) (da_cons (de_callB call_lenRD T.b_len bt_len (da_cons (de_slot 1 (pv 1)) (da_nil))) (da_nil))))))
theorem mk__law_one (D : DefOf K mg "_law_one" s__law_one) (T : Txt K mg E_Unlike E_TooGreat) (hB : SysB base) {k : Nat} {sp__law_draw : SpD} (h__law_draw : Has P w K mg base k "_law_draw" ["_law_deck_here", "_law_most"] sp__law_draw) {sp : SpD} (len : ∀ ds S Q, sp ds S Q → ds.length = 2) (hq : ∀ ds S Qd, sp ds S Qd → rd__law_one sp__law_draw { nx := fun _ S2 => fin Qd .non S2, rt := fin Qd, bk := fun _ _ => False, ct := fun _ _ => False } (pad 2 ds) S) : Has P w K mg base (k + 1) "_law_one" ["_law_deck_here", "_law_items"] sp :=
  let ⟨f, fd, F, hm⟩ := D.ex
  .of F hm (F.binds fun _ _ _ _ _ _ us hl => match us, hl with | [_, _], _ => rfl) (FnD.of F sc__law_one _ len (fun cdv A outer s H hr => dv__law_one T hB hr h__law_draw) hq)
abbrev s__law_columns : Stmt := top 19
abbrev N__law_columns : List Str := ["_law_letters", "_law_signs", "_law_found", "_law_one_here", "_law_other"]
theorem sc__law_columns : FnScope N__law_columns ["_law_letters"] (defScope s__law_columns) := ⟨rfl, rfl, rfl, by decide +kernel, rfl, by decide +kernel, by decide +kernel⟩
def rd__law_columns : TSD :=
  sSeqD (sPar2 1 2 (tConsD (tBin rAddD (tSlD (tCD (.str "abc")) (oNone) (oSome (tSlot 0))) (tCD (.str "."))) (tConsD (tLstR (tNilD)) (tNilD))))
  (sSeqD (sForD (iAnyD (tSlot 1)) (gNameD 3) (sDropD (tMethA rExtD (tSlot 2) (tConsD (tLcV (iAnyD (tSlot 1)) (gNameD 4) (tYesD) (tBin rAddD (tSlot 3) (tSlot 4)) [4]) (tNilD)))))
  (sRetD (tSlD (tSlot 2) (oNone) (oSome (tUnD rNeg (tCD (.int 1)))))))
theorem dv__law_columns (T : Txt K mg E_Unlike E_TooGreat) (hB : SysB base) {k : Nat} {f : Addr} {cdv : Value} {A : Around} {outer : List Env} {s : Shared} {H : Hp} (hr : RoomG k (A.deeper (envOfC "_law_columns" (defScope s__law_columns) s.heap.objs.size f cdv))) :
    DSs (cxOf CX0 P w K mg base N__law_columns "_law_columns" (defScope s__law_columns) f cdv A outer s H E0).nox (defBody s__law_columns) (rd__law_columns) :=
  dss_cons (ds_par 1 2 sc__law_columns.nd (da_cons (de_add (de_slice (de_str) (do_none) (do_some (de_slot 0 (pv 0)))) (de_str)) (da_cons (de_lstR (da_nil)) (da_nil))))
    (dss_cons (ds_for PassesOwn.never (di_any (de_slot 1 (pv 1))) (dg_name 3 (pg_name (i := 3) sc__law_columns.nd rfl (Or.inr rfl))) (dss_one (ds_expr (de_extend (de_slot 2 (pv 2)) (da_cons (de_lcV (own := [("_law_other", 4)]) sc__law_columns.nd (di_any (de_slot 1 (pv 1))) (blkOk_by (own := [("_law_other", 4)]) (N := N__law_columns) (sc := defScope s__law_columns) (by decide +kernel)) (fun _ _ _ _ _ => dgw_name 4 (by decide) (pg_name (i := 4) sc__law_columns.nd rfl (Or.inl rfl))) (fun _ _ _ _ _ => dts_nil) (fun _ _ _ _ _ => de_add (de_slot 3 (pv 3)) (de_slot 4 (pv 4)))) (da_nil))))))
    (dss_one (ds_ret (de_slice (de_slot 2 (pv 2)) (do_none) (do_some (de_neg (de_int)))))))
theorem mk__law_columns (D : DefOf K mg "_law_columns" s__law_columns) (T : Txt K mg E_Unlike E_TooGreat) (hB : SysB base) {k : Nat} {sp : SpD} (len : ∀ ds S Q, sp ds S Q → ds.length = 1) (hq : ∀ ds S Qd, sp ds S Qd → rd__law_columns { nx := fun _ S2 => fin Qd .non S2, rt := fin Qd, bk := fun _ _ => False, ct := fun _ _ => False } (pad 5 ds) S) : Has P w K mg base (k + 1) "_law_columns" ["_law_letters"] sp :=
  let ⟨f, fd, F, hm⟩ := D.ex
  .of F hm (F.binds fun _ _ _ _ _ _ us hl => match us, hl with | [_], _ => rfl) (FnD.of F sc__law_columns _ len (fun cdv A outer s H hr => dv__law_columns T hB hr) hq)
abbrev s__law_comp : Stmt := top 20
abbrev N__law_comp : List Str := ["_law_deck_here", "_law_letters", "_law_many", "_law_rows", "_law_row", "_law_column"]
theorem sc__law_comp : FnScope N__law_comp ["_law_deck_here", "_law_letters", "_law_many"] (defScope s__law_comp) := ⟨rfl, rfl, rfl, by decide +kernel, rfl, by decide +kernel, by decide +kernel⟩
def rd__law_comp (sp__law_columns : SpD) (sp__law_draw : SpD) (sp__law_one : SpD) : TSD :=
  sSeqD (sAsgD (tLcV (iRng1D (tConsD (tSlot 2) (tNilD))) (gNameD 4) (tYesD) (tCallD rTupleD (tConsD (tLcV (iAnyD (tCallD sp__law_columns (tConsD (tSlot 1) (tNilD)))) (gNameD 5) (tYesD) (tCallD sp__law_draw (tConsD (tSlot 0) (tConsD (tSlot 2) (tNilD)))) [5]) (tNilD))) [4]) (gNameD 3))
  (sRetD (tTupD (tConsD (tSlot 1) (tConsD (tCallD rTupleD (tConsD (tSlot 3) (tNilD))) (tConsD (tBin rAddD (tTupD (tConsD (tCallD sp__law_one (tConsD (tSlot 0) (tConsD (tLstV (tConsD (tCD (.int 0)) (tConsD (tCD (.int 0)) (tConsD (tCD (.int 1)) (tNilD))))) (tNilD)))) (tNilD))) (tCallD rTupleD (tConsD (tLcV (iRng1D (tConsD (tBin rSubD (tSlot 2) (tCD (.int 1))) (tNilD))) (gNameD 4) (tYesD) (tBin rSubD (tCallD sp__law_draw (tConsD (tSlot 0) (tConsD (tCD (.int 3)) (tNilD)))) (tCD (.int 1))) [4]) (tNilD)))) (tNilD))))))
theorem dv__law_comp (T : Txt K mg E_Unlike E_TooGreat) (hB : SysB base) {k : Nat} {f : Addr} {cdv : Value} {A : Around} {outer : List Env} {s : Shared} {H : Hp} (hr : RoomG k (A.deeper (envOfC "_law_comp" (defScope s__law_comp) s.heap.objs.size f cdv))) {sp__law_columns : SpD} (h__law_columns : Has P w K mg base k "_law_columns" ["_law_letters"] sp__law_columns) {sp__law_draw : SpD} (h__law_draw : Has P w K mg base k "_law_draw" ["_law_deck_here", "_law_most"] sp__law_draw) {sp__law_one : SpD} (h__law_one : Has P w K mg base k "_law_one" ["_law_deck_here", "_law_items"] sp__law_one) :
    DSs (cxOf CX0 P w K mg base N__law_comp "_law_comp" (defScope s__law_comp) f cdv A outer s H E0).nox (defBody s__law_comp) (rd__law_comp sp__law_columns sp__law_draw sp__law_one) :=
  dss_cons (ds_setLcV 3 (own := [("_law_row", 4)]) sc__law_comp.nd (di_range1 T.b_range (da_cons (de_slot 2 (pv 2)) (da_nil))) (blkOk_by (own := [("_law_row", 4)]) (N := N__law_comp) (sc := defScope s__law_comp) (by decide +kernel)) (fun _ _ _ _ _ => dgw_name 4 (by decide) (pg_name (i := 4) sc__law_comp.nd rfl (Or.inl rfl))) (fun _ _ _ _ _ => dts_nil) (fun _ _ _ _ _ => de_callTy call_tupleRD T.b_tuple bt_tuple (da_cons (de_lcV (own := [("_law_column", 5)]) sc__law_comp.nd (di_any (de_call h__law_columns hr (da_cons (de_slot 1 (pv 1)) (da_nil)))) (blkOk_by (by rfl)) (fun _ _ _ _ _ => dgw_name 5 (by decide) (pg_name (i := 5) sc__law_comp.nd rfl (Or.inl rfl))) (fun _ _ _ _ _ => dts_nil) (fun _ _ _ _ _ => de_call h__law_draw hr (da_cons (de_slot 0 (pv 0)) (da_cons (de_slot 2 (pv 2)) (da_nil))))) (da_nil))))
    (dss_one (ds_ret (de_tup (da_cons (de_slot 1 (pv 1)) (da_cons (de_callTy call_tupleRD T.b_tuple bt_tuple (da_cons (de_slot 3 (pv 3)) (da_nil))) (da_cons (de_add (de_tup (da_cons (de_call h__law_one hr (da_cons (de_slot 0 (pv 0)) (da_cons (de_lstV (da_cons (de_int) (da_cons (de_int) (da_cons (de_int) (da_nil))))) (da_nil)))) (da_nil))) (de_callTy call_tupleRD T.b_tuple bt_tuple (da_cons (de_lcV (own := [("_law_row", 4)]) sc__law_comp.nd (di_range1 T.b_range (da_cons (de_sub (de_slot 2 (pv 2)) (de_int)) (da_nil))) (blkOk_by (own := [("_law_row", 4)]) (N := N__law_comp) (sc := defScope s__law_comp) (by decide +kernel)) (fun _ _ _ _ _ => dgw_name 4 (by decide) (pg_name (i := 4) sc__law_comp.nd rfl (Or.inl rfl))) (fun _ _ _ _ _ => dts_nil) (fun _ _ _ _ _ => de_sub (de_call h__law_draw hr (da_cons (de_slot 0 (pv 0)) (da_cons (de_int) (da_nil)))) (de_int))) (da_nil)))) (da_nil)))))))
theorem mk__law_comp (D : DefOf K mg "_law_comp" s__law_comp) (T : Txt K mg E_Unlike E_TooGreat) (hB : SysB base) {k : Nat} {sp__law_columns : SpD} (h__law_columns : Has P w K mg base k "_law_columns" ["_law_letters"] sp__law_columns) {sp__law_draw : SpD} (h__law_draw : Has P w K mg base k "_law_draw" ["_law_deck_here", "_law_most"] sp__law_draw) {sp__law_one : SpD} (h__law_one : Has P w K mg base k "_law_one" ["_law_deck_here", "_law_items"] sp__law_one) {sp : SpD} (len : ∀ ds S Q, sp ds S Q → ds.length = 3) (hq : ∀ ds S Qd, sp ds S Qd → rd__law_comp sp__law_columns sp__law_draw sp__law_one { nx := fun _ S2 => fin Qd .non S2, rt := fin Qd, bk := fun _ _ => False, ct := fun _ _ => False } (pad 6 ds) S) : Has P w K mg base (k + 1) "_law_comp" ["_law_deck_here", "_law_letters", "_law_many"] sp :=
  let ⟨f, fd, F, hm⟩ := D.ex
  .of F hm (F.binds fun _ _ _ _ _ _ us hl => match us, hl with | [_, _, _], _ => rfl) (FnD.of F sc__law_comp _ len (fun cdv A outer s H hr => dv__law_comp T hB hr h__law_columns h__law_draw h__law_one) hq)
abbrev s__law_ranked : Stmt := top 22
abbrev N__law_ranked : List Str := ["_law_letters", "_law_ranks", "_law_first", "_law_one_here", "_law_other", "_law_gap", "_law_wide"]
theorem sc__law_ranked : FnScope N__law_ranked ["_law_letters", "_law_ranks"] (defScope s__law_ranked) := ⟨rfl, rfl, rfl, by decide +kernel, rfl, by decide +kernel, by decide +kernel⟩
def rd__law_ranked (sp__law_columns : SpD) : TSD :=
  sSeqD (sAsgD (tLstR (tNilD)) (gNameD 2))
  (sSeqD (sForD (iAnyD (tCallD sp__law_columns (tConsD (tSlot 0) (tNilD)))) (gUnpD 2 (gConsD (gNameD 3) (gConsD (gNameD 4) (gNilD)))) (sIfD (tOrD (tTst (tBin rEqD (tSlot 3) (tCD (.str ".")))) (tTst (tBin rEqD (tSlot 4) (tCD (.str "."))))) (sDropD (tMethL rAppD (tSlot 2) (tConsD (tIfD (tTst (tBin rEqD (tSlot 3) (tCD (.str ".")))) (tCD (.int 1)) (tCD (.int 2))) (tNilD)))) (sSeqD (sAsgD (tBin rSubD (tBin rIxX (tSlot 1) (tMethS rSixD (tCD (.str "abc")) (tSlot 3))) (tBin rIxX (tSlot 1) (tMethS rSixD (tCD (.str "abc")) (tSlot 4)))) (gNameD 5))
  (sDropD (tMethL rAppD (tSlot 2) (tConsD (tIfD (tTst (tBin rEqD (tSlot 5) (tCD (.int 0)))) (tCD (.int 0)) (tIfD (tTst (tBin (rCmpI fLt) (tSlot 5) (tCD (.int 0)))) (tCD (.int 1)) (tCD (.int 2)))) (tNilD)))))))
  (sSeqD (sAsgD (tCallD rLenD (tConsD (tSlot 2) (tNilD))) (gNameD 6))
  (sRetD (tTupD (tConsD (tSlot 0) (tConsD (tTupD (tConsD (tCallD rTupleD (tConsD (tSlot 2) (tNilD))) (tConsD (tBin rMulD (tTupD (tConsD (tCD (.int 1)) (tNilD))) (tSlot 6)) (tConsD (tBin rMulD (tTupD (tConsD (tCD (.int 2)) (tNilD))) (tSlot 6)) (tNilD))))) (tConsD (tTupD (tConsD (tCD (.int 0)) (tConsD (tUnD rNeg (tCD (.int 1))) (tConsD (tCD (.int 1)) (tNilD))))) (tNilD))))))))
theorem dv__law_ranked (T : Txt K mg E_Unlike E_TooGreat) (hB : SysB base) {k : Nat} {f : Addr} {cdv : Value} {A : Around} {outer : List Env} {s : Shared} {H : Hp} (hr : RoomG k (A.deeper (envOfC "_law_ranked" (defScope s__law_ranked) s.heap.objs.size f cdv))) {sp__law_columns : SpD} (h__law_columns : Has P w K mg base k "_law_columns" ["_law_letters"] sp__law_columns) :
    DSs (cxOf CX0 P w K mg base N__law_ranked "_law_ranked" (defScope s__law_ranked) f cdv A outer s H E0).nox (defBody s__law_ranked) (rd__law_ranked sp__law_columns) :=
  dss_cons (ds_set 2 sc__law_ranked.nd (de_lstR (da_nil)))
    (dss_cons (ds_for PassesOwn.never (di_any (de_call h__law_columns hr (da_cons (de_slot 0 (pv 0)) (da_nil)))) (dg_unp rfl (dgs_cons (dg_name 3 (pg_name (i := 3) sc__law_ranked.nd rfl (Or.inl rfl))) (dgs_cons (dg_name 4 (pg_name (i := 4) sc__law_ranked.nd rfl (Or.inl rfl))) (dgs_nil)))) (dss_one (ds_if (dt_w (dw_or (dt_eq hr hB (de_slot 3 (pv 3)) (de_str)) (dw_or1 (dt_eq hr hB (de_slot 4 (pv 4)) (de_str))))) (dss_one (ds_expr (de_append (de_slot 2 (pv 2)) (da_cons (de_if (dt_eq hr hB (de_slot 3 (pv 3)) (de_str)) (de_int) (de_int)) (da_nil))))) (dss_cons (ds_set 5 sc__law_ranked.nd (de_sub (de_ixX hr (de_slot 1 (pv 1)) (de_sindex (de_str) (de_slot 3 (pv 3)))) (de_ixX hr (de_slot 1 (pv 1)) (de_sindex (de_str) (de_slot 4 (pv 4))))))
    (dss_one (ds_expr (de_append (de_slot 2 (pv 2)) (da_cons (de_if (dt_eq hr hB (de_slot 5 (pv 5)) (de_int)) (de_int) (de_if (dt_lt (de_slot 5 (pv 5)) (de_int)) (de_int) (de_int))) (da_nil)))))))))
    (dss_cons (ds_set 6 sc__law_ranked.nd (de_callB call_lenRD T.b_len bt_len (da_cons (de_slot 2 (pv 2)) (da_nil))))
    (dss_one (ds_ret (de_tup (da_cons (de_slot 0 (pv 0)) (da_cons (de_tup (da_cons (de_callTy call_tupleRD T.b_tuple bt_tuple (da_cons (de_slot 2 (pv 2)) (da_nil))) (da_cons (de_mul (de_tup (da_cons (de_int) (da_nil))) (de_slot 6 (pv 6))) (da_cons (de_mul (de_tup (da_cons (de_int) (da_nil))) (de_slot 6 (pv 6))) (da_nil))))) (da_cons (de_tup (da_cons (de_int) (da_cons (de_neg (de_int)) (da_cons (de_int) (da_nil))))) (da_nil)))))))))
theorem mk__law_ranked (D : DefOf K mg "_law_ranked" s__law_ranked) (T : Txt K mg E_Unlike E_TooGreat) (hB : SysB base) {k : Nat} {sp__law_columns : SpD} (h__law_columns : Has P w K mg base k "_law_columns" ["_law_letters"] sp__law_columns) {sp : SpD} (len : ∀ ds S Q, sp ds S Q → ds.length = 2) (hq : ∀ ds S Qd, sp ds S Qd → rd__law_ranked sp__law_columns { nx := fun _ S2 => fin Qd .non S2, rt := fin Qd, bk := fun _ _ => False, ct := fun _ _ => False } (pad 7 ds) S) : Has P w K mg base (k + 1) "_law_ranked" ["_law_letters", "_law_ranks"] sp :=
  let ⟨f, fd, F, hm⟩ := D.ex
  .of F hm (F.binds fun _ _ _ _ _ _ us hl => match us, hl with | [_, _], _ => rfl) (FnD.of F sc__law_ranked _ len (fun cdv A outer s H hr => dv__law_ranked T hB hr h__law_columns) hq)
abbrev s__law_turned : Stmt := top 23
abbrev N__law_turned : List Str := ["_law_comp_here", "_law_verdict"]
theorem sc__law_turned : FnScope N__law_turned ["_law_comp_here"] (defScope s__law_turned) := ⟨rfl, rfl, rfl, by decide +kernel, rfl, by decide +kernel, by decide +kernel⟩
def rd__law_turned : TSD :=
  sRetD (tTupD (tConsD (tBin rIxX (tSlot 0) (tCD (.int 0))) (tConsD (tBin rIxX (tSlot 0) (tCD (.int 1))) (tConsD (tCallD rTupleD (tConsD (tLcV (iAnyD (tBin rIxX (tSlot 0) (tCD (.int 2)))) (gNameD 1) (tYesD) (tBin rSubD (tCD (.int 0)) (tSlot 1)) [1]) (tNilD))) (tNilD)))))
theorem dv__law_turned (T : Txt K mg E_Unlike E_TooGreat) (hB : SysB base) {k : Nat} {f : Addr} {cdv : Value} {A : Around} {outer : List Env} {s : Shared} {H : Hp} (hr : RoomG k (A.deeper (envOfC "_law_turned" (defScope s__law_turned) s.heap.objs.size f cdv))) :
    DSs (cxOf CX0 P w K mg base N__law_turned "_law_turned" (defScope s__law_turned) f cdv A outer s H E0).nox (defBody s__law_turned) (rd__law_turned) :=
  dss_one (ds_ret (de_tup (da_cons (de_ixX hr (de_slot 0 (pv 0)) (de_int)) (da_cons (de_ixX hr (de_slot 0 (pv 0)) (de_int)) (da_cons (de_callTy call_tupleRD T.b_tuple bt_tuple (da_cons (de_lcV (own := [("_law_verdict", 1)]) sc__law_turned.nd (di_any (de_ixX hr (de_slot 0 (pv 0)) (de_int))) (blkOk_by (own := [("_law_verdict", 1)]) (N := N__law_turned) (sc := defScope s__law_turned) (by decide +kernel)) (fun _ _ _ _ _ => dgw_name 1 (by decide) (pg_name (i := 1) sc__law_turned.nd rfl (Or.inl rfl))) (fun _ _ _ _ _ => dts_nil) (fun _ _ _ _ _ => de_sub (de_int) (de_slot 1 (pv 1)))) (da_nil))) (da_nil))))))
theorem mk__law_turned (D : DefOf K mg "_law_turned" s__law_turned) (T : Txt K mg E_Unlike E_TooGreat) (hB : SysB base) {k : Nat} {sp : SpD} (len : ∀ ds S Q, sp ds S Q → ds.length = 1) (hq : ∀ ds S Qd, sp ds S Qd → rd__law_turned { nx := fun _ S2 => fin Qd .non S2, rt := fin Qd, bk := fun _ _ => False, ct := fun _ _ => False } (pad 2 ds) S) : Has P w K mg base (k + 1) "_law_turned" ["_law_comp_here"] sp :=
  let ⟨f, fd, F, hm⟩ := D.ex
  .of F hm (F.binds fun _ _ _ _ _ _ us hl => match us, hl with | [_], _ => rfl) (FnD.of F sc__law_turned _ len (fun cdv A outer s H hr => dv__law_turned T hB hr) hq)
abbrev s__law_then : Stmt := top 24
abbrev N__law_then : List Str := ["_law_one_here", "_law_other", "_law_pairs", "_law_rows", "_law_turn", "_law_p", "_law_q", "_law_pair", "_law_verdicts"]
theorem sc__law_then : FnScope N__law_then ["_law_one_here", "_law_other"] (defScope s__law_then) := ⟨rfl, rfl, rfl, by decide +kernel, rfl, by decide +kernel, by decide +kernel⟩
def rd__law_then : TSD :=
  sSeqD (sAsgD (tTupD (tConsD (tLstR (tConsD (tTupD (tConsD (tCD (.int 0)) (tConsD (tCD (.int 0)) (tNilD)))) (tNilD))) (tConsD (tLstR (tNilD)) (tNilD)))) (gTupD 2 (gConsD (gNameD 2) (gConsD (gNameD 3) (gNilD)))))
  (sSeqD (sForD (iRng1D (tConsD (tBin rMulD (tCallD rLenD (tConsD (tBin rIxX (tSlot 0) (tCD (.int 1))) (tNilD))) (tCallD rLenD (tConsD (tBin rIxX (tSlot 1) (tCD (.int 1))) (tNilD)))) (tNilD))) (gNameD 4) (sIfD (tTst (tBin (rCmpI fLt) (tSlot 4) (tCallD rLenD (tConsD (tSlot 2) (tNilD))))) (sSeqD (sAsgD (tBin rIxX (tSlot 2) (tSlot 4)) (gTupD 2 (gConsD (gNameD 5) (gConsD (gNameD 6) (gNilD)))))
  (sSeqD (sForD (iZipD (tConsD (tBin rIxX (tBin rIxX (tSlot 0) (tCD (.int 1))) (tSlot 5)) (tConsD (tBin rIxX (tBin rIxX (tSlot 1) (tCD (.int 1))) (tSlot 6)) (tNilD)))) (gNameD 7) (sIfD (tTst (tBin (rInP true) (tSlot 7) (tSlot 2))) (sDropD (tMethL rAppD (tSlot 2) (tConsD (tSlot 7) (tNilD)))) (sNextD)))
  (sDropD (tMethL rAppD (tSlot 3) (tConsD (tCallD rTupleD (tConsD (tLcV (iZipD (tConsD (tBin rIxX (tBin rIxX (tSlot 0) (tCD (.int 1))) (tSlot 5)) (tConsD (tBin rIxX (tBin rIxX (tSlot 1) (tCD (.int 1))) (tSlot 6)) (tNilD)))) (gNameD 7) (tYesD) (tMethA rLixP (tSlot 2) (tConsD (tSlot 7) (tNilD))) [7]) (tNilD))) (tNilD)))))) (sNextD)))
  (sSeqD (sAsgD (tLcV (iAnyD (tSlot 2)) (gTupD 2 (gConsD (gNameD 5) (gConsD (gNameD 6) (gNilD)))) (tYesD) (tIfD (tTst (tBin rNeD (tBin rIxX (tBin rIxX (tSlot 0) (tCD (.int 2))) (tSlot 5)) (tCD (.int 0)))) (tBin rIxX (tBin rIxX (tSlot 0) (tCD (.int 2))) (tSlot 5)) (tBin rIxX (tBin rIxX (tSlot 1) (tCD (.int 2))) (tSlot 6))) [5, 6]) (gNameD 8))
  (sRetD (tTupD (tConsD (tBin rIxX (tSlot 0) (tCD (.int 0))) (tConsD (tCallD rTupleD (tConsD (tSlot 3) (tNilD))) (tConsD (tCallD rTupleD (tConsD (tSlot 8) (tNilD))) (tNilD))))))))
theorem dv__law_then (T : Txt K mg E_Unlike E_TooGreat) (hB : SysB base) {k : Nat} {f : Addr} {cdv : Value} {A : Around} {outer : List Env} {s : Shared} {H : Hp} (hr : RoomG k (A.deeper (envOfC "_law_then" (defScope s__law_then) s.heap.objs.size f cdv))) :
    DSs (cxOf CX0 P w K mg base N__law_then "_law_then" (defScope s__law_then) f cdv A outer s H E0).nox (defBody s__law_then) (rd__law_then) :=
  dss_cons (ds_asg (de_tup (da_cons (de_lstR (da_cons (de_tup (da_cons (de_int) (da_cons (de_int) (da_nil)))) (da_nil))) (da_cons (de_lstR (da_nil)) (da_nil)))) (dg_tup rfl (dgs_cons (dg_name 2 (pg_name (i := 2) sc__law_then.nd rfl (Or.inr rfl))) (dgs_cons (dg_name 3 (pg_name (i := 3) sc__law_then.nd rfl (Or.inl rfl))) (dgs_nil)))))
    (dss_cons (ds_for PassesOwn.never (di_range1 T.b_range (da_cons (de_mul (de_callB call_lenRD T.b_len bt_len (da_cons (de_ixX hr (de_slot 0 (pv 0)) (de_int)) (da_nil))) (de_callB call_lenRD T.b_len bt_len (da_cons (de_ixX hr (de_slot 1 (pv 1)) (de_int)) (da_nil)))) (da_nil))) (dg_name 4 (pg_name (i := 4) sc__law_then.nd rfl (Or.inl rfl))) (dss_one (ds_if (dt_lt (de_slot 4 (pv 4)) (de_callB call_lenRD T.b_len bt_len (da_cons (de_slot 2 (pv 2)) (da_nil)))) (dss_cons (ds_asg (de_ixX hr (de_slot 2 (pv 2)) (de_slot 4 (pv 4))) (dg_tup rfl (dgs_cons (dg_name 5 (pg_name (i := 5) sc__law_then.nd rfl (Or.inl rfl))) (dgs_cons (dg_name 6 (pg_name (i := 6) sc__law_then.nd rfl (Or.inl rfl))) (dgs_nil)))))
    (dss_cons (ds_for PassesOwn.never (di_zipN T.b_zip (da_cons (de_ixX hr (de_ixX hr (de_slot 0 (pv 0)) (de_int)) (de_slot 5 (pv 5))) (da_cons (de_ixX hr (de_ixX hr (de_slot 1 (pv 1)) (de_int)) (de_slot 6 (pv 6))) (da_nil)))) (dg_name 7 (pg_name (i := 7) sc__law_then.nd rfl (Or.inl rfl))) (dss_one (ds_if (dt_notInP hr hB (de_slot 7 (pv 7)) (de_slot 2 (pv 2))) (dss_one (ds_expr (de_append (de_slot 2 (pv 2)) (da_cons (de_slot 7 (pv 7)) (da_nil))))) (dss_nil))))
    (dss_one (ds_expr (de_append (de_slot 3 (pv 3)) (da_cons (de_callTy call_tupleRD T.b_tuple bt_tuple (da_cons (de_lcV (own := [("_law_pair", 7)]) sc__law_then.nd (di_zipN T.b_zip (da_cons (de_ixX hr (de_ixX hr (de_slot 0 (pv 0)) (de_int)) (de_slot 5 (pv 5))) (da_cons (de_ixX hr (de_ixX hr (de_slot 1 (pv 1)) (de_int)) (de_slot 6 (pv 6))) (da_nil)))) (blkOk_by (own := [("_law_pair", 7)]) (N := N__law_then) (sc := defScope s__law_then) (by decide +kernel)) (fun _ _ _ _ _ => dgw_name 7 (by decide) (pg_name (i := 7) sc__law_then.nd rfl (Or.inl rfl))) (fun _ _ _ _ _ => dts_nil) (fun _ _ _ _ _ => de_lindexP hr hB (de_slot 2 (pv 2)) (da_cons (de_slot 7 (pv 7)) (da_nil)))) (da_nil))) (da_nil))))))) (dss_nil))))
    (dss_cons (ds_setLcV 8 (own := [("_law_p", 5), ("_law_q", 6)]) sc__law_then.nd (di_any (de_slot 2 (pv 2))) (blkOk_by (own := [("_law_p", 5), ("_law_q", 6)]) (N := N__law_then) (sc := defScope s__law_then) (by decide +kernel)) (fun _ _ _ _ _ => dgw_tup rfl (dgsw_cons (dgw_name 5 (by decide) (pg_name (i := 5) sc__law_then.nd rfl (Or.inl rfl))) (dgsw_cons (dgw_name 6 (by decide) (pg_name (i := 6) sc__law_then.nd rfl (Or.inl rfl))) (dgsw_nil)))) (fun _ _ _ _ _ => dts_nil) (fun _ _ _ _ _ => de_if (dt_ne hr hB (de_ixX hr (de_ixX hr (de_slot 0 (pv 0)) (de_int)) (de_slot 5 (pv 5))) (de_int)) (de_ixX hr (de_ixX hr (de_slot 0 (pv 0)) (de_int)) (de_slot 5 (pv 5))) (de_ixX hr (de_ixX hr (de_slot 1 (pv 1)) (de_int)) (de_slot 6 (pv 6)))))
    (dss_one (ds_ret (de_tup (da_cons (de_ixX hr (de_slot 0 (pv 0)) (de_int)) (da_cons (de_callTy call_tupleRD T.b_tuple bt_tuple (da_cons (de_slot 3 (pv 3)) (da_nil))) (da_cons (de_callTy call_tupleRD T.b_tuple bt_tuple (da_cons (de_slot 8 (pv 8)) (da_nil))) (da_nil)))))))))
theorem mk__law_then (D : DefOf K mg "_law_then" s__law_then) (T : Txt K mg E_Unlike E_TooGreat) (hB : SysB base) {k : Nat} {sp : SpD} (len : ∀ ds S Q, sp ds S Q → ds.length = 2) (hq : ∀ ds S Qd, sp ds S Qd → rd__law_then { nx := fun _ S2 => fin Qd .non S2, rt := fin Qd, bk := fun _ _ => False, ct := fun _ _ => False } (pad 9 ds) S) : Has P w K mg base (k + 1) "_law_then" ["_law_one_here", "_law_other"] sp :=
  let ⟨f, fd, F, hm⟩ := D.ex
  .of F hm (F.binds fun _ _ _ _ _ _ us hl => match us, hl with | [_, _], _ => rfl) (FnD.of F sc__law_then _ len (fun cdv A outer s H hr => dv__law_then T hB hr) hq)
abbrev s__law_order : Stmt := top 25
abbrev N__law_order : List Str := ["_law_deck_here", "_law_letters", "_law_found", "_law_turn", "_law_wide", "_law_own", "_law_letter"]
theorem sc__law_order : FnScope N__law_order ["_law_deck_here", "_law_letters"] (defScope s__law_order) := ⟨rfl, rfl, rfl, by decide +kernel, rfl, by decide +kernel, by decide +kernel⟩
def rd__law_order (sp__law_draw : SpD) (sp__law_one : SpD) (sp__law_ranked : SpD) (sp__law_turned : SpD) (sp__law_then : SpD) : TSD :=
  sSeqD (sAsgD (tLstR (tNilD)) (gNameD 2))
  (sSeqD (sForD (iRng1D (tConsD (tBin rAddD (tCD (.int 1)) (tCallD sp__law_draw (tConsD (tSlot 0) (tConsD (tCD (.int 2)) (tNilD))))) (tNilD))) (gNameD 3) (sSeqD (sAsgD (tCallD sp__law_one (tConsD (tSlot 0) (tConsD (tLstV (tConsD (tCD (.int 1)) (tConsD (tCD (.int 2)) (tConsD (tCD (.int 3)) (tNilD))))) (tNilD)))) (gNameD 4))
  (sSeqD (sAsgD (tCallD sp__law_ranked (tConsD (tSlot 1) (tConsD (tLcV (iRng1D (tConsD (tSlot 1) (tNilD))) (gNameD 6) (tYesD) (tCallD sp__law_draw (tConsD (tSlot 0) (tConsD (tSlot 4) (tNilD)))) [6]) (tNilD)))) (gNameD 5))
  (sDropD (tMethL rAppD (tSlot 2) (tConsD (tIfD (tTst (tBin rEqD (tCallD sp__law_draw (tConsD (tSlot 0) (tConsD (tCD (.int 3)) (tNilD)))) (tCD (.int 0)))) (tCallD sp__law_turned (tConsD (tSlot 5) (tNilD))) (tSlot 5)) (tNilD)))))))
  (sRetD (tIfD (tTst (tBin rEqD (tCallD rLenD (tConsD (tSlot 2) (tNilD))) (tCD (.int 1)))) (tBin rIxX (tSlot 2) (tCD (.int 0))) (tCallD sp__law_then (tConsD (tBin rIxX (tSlot 2) (tCD (.int 0))) (tConsD (tBin rIxX (tSlot 2) (tCD (.int 1))) (tNilD)))))))
theorem dv__law_order (T : Txt K mg E_Unlike E_TooGreat) (hB : SysB base) {k : Nat} {f : Addr} {cdv : Value} {A : Around} {outer : List Env} {s : Shared} {H : Hp} (hr : RoomG k (A.deeper (envOfC "_law_order" (defScope s__law_order) s.heap.objs.size f cdv))) {sp__law_draw : SpD} (h__law_draw : Has P w K mg base k "_law_draw" ["_law_deck_here", "_law_most"] sp__law_draw) {sp__law_one : SpD} (h__law_one : Has P w K mg base k "_law_one" ["_law_deck_here", "_law_items"] sp__law_one) {sp__law_ranked : SpD} (h__law_ranked : Has P w K mg base k "_law_ranked" ["_law_letters", "_law_ranks"] sp__law_ranked) {sp__law_turned : SpD} (h__law_turned : Has P w K mg base k "_law_turned" ["_law_comp_here"] sp__law_turned) {sp__law_then : SpD} (h__law_then : Has P w K mg base k "_law_then" ["_law_one_here", "_law_other"] sp__law_then) :
    DSs (cxOf CX0 P w K mg base N__law_order "_law_order" (defScope s__law_order) f cdv A outer s H E0).nox (defBody s__law_order) (rd__law_order sp__law_draw sp__law_one sp__law_ranked sp__law_turned sp__law_then) :=
  dss_cons (ds_set 2 sc__law_order.nd (de_lstR (da_nil)))
    (dss_cons (ds_for PassesOwn.never (di_range1 T.b_range (da_cons (de_add (de_int) (de_call h__law_draw hr (da_cons (de_slot 0 (pv 0)) (da_cons (de_int) (da_nil))))) (da_nil))) (dg_name 3 (pg_name (i := 3) sc__law_order.nd rfl (Or.inl rfl))) (dss_cons (ds_set 4 sc__law_order.nd (de_call h__law_one hr (da_cons (de_slot 0 (pv 0)) (da_cons (de_lstV (da_cons (de_int) (da_cons (de_int) (da_cons (de_int) (da_nil))))) (da_nil)))))
    (dss_cons (ds_set 5 sc__law_order.nd (de_call h__law_ranked hr (da_cons (de_slot 1 (pv 1)) (da_cons (de_lcV (own := [("_law_letter", 6)]) sc__law_order.nd (di_range1 T.b_range (da_cons (de_slot 1 (pv 1)) (da_nil))) (blkOk_by (own := [("_law_letter", 6)]) (N := N__law_order) (sc := defScope s__law_order) (by decide +kernel)) (fun _ _ _ _ _ => dgw_name 6 (by decide) (pg_name (i := 6) sc__law_order.nd rfl (Or.inl rfl))) (fun _ _ _ _ _ => dts_nil) (fun _ _ _ _ _ => de_call h__law_draw hr (da_cons (de_slot 0 (pv 0)) (da_cons (de_slot 4 (pv 4)) (da_nil))))) (da_nil)))))
    (dss_one (ds_expr (de_append (de_slot 2 (pv 2)) (da_cons (de_if (dt_eq hr hB (de_call h__law_draw hr (da_cons (de_slot 0 (pv 0)) (da_cons (de_int) (da_nil)))) (de_int)) (de_call h__law_turned hr (da_cons (de_slot 5 (pv 5)) (da_nil))) (de_slot 5 (pv 5))) (da_nil))))))))
    (dss_one (ds_ret (de_if (dt_eq hr hB (de_callB call_lenRD T.b_len bt_len (da_cons (de_slot 2 (pv 2)) (da_nil))) (de_int)) (de_ixX hr (de_slot 2 (pv 2)) (de_int)) (de_call h__law_then hr (da_cons (de_ixX hr (de_slot 2 (pv 2)) (de_int)) (da_cons (de_ixX hr (de_slot 2 (pv 2)) (de_int)) (da_nil))))))))
theorem mk__law_order (D : DefOf K mg "_law_order" s__law_order) (T : Txt K mg E_Unlike E_TooGreat) (hB : SysB base) {k : Nat} {sp__law_draw : SpD} (h__law_draw : Has P w K mg base k "_law_draw" ["_law_deck_here", "_law_most"] sp__law_draw) {sp__law_one : SpD} (h__law_one : Has P w K mg base k "_law_one" ["_law_deck_here", "_law_items"] sp__law_one) {sp__law_ranked : SpD} (h__law_ranked : Has P w K mg base k "_law_ranked" ["_law_letters", "_law_ranks"] sp__law_ranked) {sp__law_turned : SpD} (h__law_turned : Has P w K mg base k "_law_turned" ["_law_comp_here"] sp__law_turned) {sp__law_then : SpD} (h__law_then : Has P w K mg base k "_law_then" ["_law_one_here", "_law_other"] sp__law_then) {sp : SpD} (len : ∀ ds S Q, sp ds S Q → ds.length = 2) (hq : ∀ ds S Qd, sp ds S Qd → rd__law_order sp__law_draw sp__law_one sp__law_ranked sp__law_turned sp__law_then { nx := fun _ S2 => fin Qd .non S2, rt := fin Qd, bk := fun _ _ => False, ct := fun _ _ => False } (pad 7 ds) S) : Has P w K mg base (k + 1) "_law_order" ["_law_deck_here", "_law_letters"] sp :=
  let ⟨f, fd, F, hm⟩ := D.ex
  .of F hm (F.binds fun _ _ _ _ _ _ us hl => match us, hl with | [_, _], _ => rfl) (FnD.of F sc__law_order _ len (fun cdv A outer s H hr => dv__law_order T hB hr h__law_draw h__law_one h__law_ranked h__law_turned h__law_then) hq)
abbrev s__law_told : Stmt := top 26
abbrev N__law_told : List Str := ["_law_one_here", "_law_other"]
theorem sc__law_told : FnScope N__law_told ["_law_one_here", "_law_other"] (defScope s__law_told) := ⟨rfl, rfl, rfl, by decide +kernel, rfl, by decide +kernel, by decide +kernel⟩
def rd__law_told (E_TooGreat : Addr) (E_Unlike : Addr) (xm : Addr → Addr → Option Bool) (sp_then : SpX) : TSD :=
  sTryD xm (sRetX (tCallX sp_then (tConsD (tSlot 0) (tConsD (tSlot 1) (tNilD))))) [(E_Unlike, sRetD (tCD (.str "unlike"))), (E_TooGreat, sRetD (tCD (.str "great")))]
theorem dv__law_told (T : Txt K mg E_Unlike E_TooGreat) (hB : SysB base) {k : Nat} {f : Addr} {cdv : Value} {A : Around} {outer : List Env} {s : Shared} {H : Hp} (hr : RoomG k (A.deeper (envOfC "_law_told" (defScope s__law_told) s.heap.objs.size f cdv))) {sp_then : SpX} (h_then : HasX P w K mg base k "then" ["one", "other"] sp_then) :
    DSs (cxOf CX0 P w K mg base N__law_told "_law_told" (defScope s__law_told) f cdv A outer s H E0).nox (defBody s__law_told) (rd__law_told E_TooGreat E_Unlike (exm K) sp_then) :=
  dss_one (ds_try (fun pn xe po => dss_one (ds_retX (de_callX h_then hr (da_cons (de_slot 0 (pv 0)) (da_cons (de_slot 1 (pv 1)) (da_nil)))))) (.cons ⟨rfl, by decide, .inl T.x_Unlike.gC⟩ (fun a pn => dss_one (ds_ret (de_str))) (.cons ⟨rfl, by decide, .inl T.x_TooGreat.gC⟩ (fun a pn => dss_one (ds_ret (de_str))) .nil)))
theorem mk__law_told (D : DefOf K mg "_law_told" s__law_told) (T : Txt K mg E_Unlike E_TooGreat) (hB : SysB base) {k : Nat} {sp_then : SpX} (h_then : HasX P w K mg base k "then" ["one", "other"] sp_then) {sp : SpD} (len : ∀ ds S Q, sp ds S Q → ds.length = 2) (hq : ∀ ds S Qd, sp ds S Qd → rd__law_told E_TooGreat E_Unlike (exm K) sp_then { nx := fun _ S2 => fin Qd .non S2, rt := fin Qd, bk := fun _ _ => False, ct := fun _ _ => False } (pad 2 ds) S) : Has P w K mg base (k + 1) "_law_told" ["_law_one_here", "_law_other"] sp :=
  let ⟨f, fd, F, hm⟩ := D.ex
  .of F hm (F.binds fun _ _ _ _ _ _ us hl => match us, hl with | [_, _], _ => rfl) (FnD.of F sc__law_told _ len (fun cdv A outer s H hr => dv__law_told T hB hr h_then) hq)
abbrev s__law_due : Stmt := top 27
abbrev N__law_due : List Str := ["_law_one_here", "_law_other", "_law_found"]
theorem sc__law_due : FnScope N__law_due ["_law_one_here", "_law_other"] (defScope s__law_due) := ⟨rfl, rfl, rfl, by decide +kernel, rfl, by decide +kernel, by decide +kernel⟩
def rd__law_due (sp__law_then : SpD) : TSD :=
  sSeqD (sIfD (tTst (tBin rNeD (tBin rIxX (tSlot 0) (tCD (.int 0))) (tBin rIxX (tSlot 1) (tCD (.int 0))))) (sRetD (tCD (.str "unlike"))) (sNextD))
  (sSeqD (sAsgD (tCallD sp__law_then (tConsD (tSlot 0) (tConsD (tSlot 1) (tNilD)))) (gNameD 2))
  (sRetD (tIfD (tTst (tBin (rCmpI fLe) (tCallD rLenD (tConsD (tBin rIxX (tSlot 2) (tCD (.int 1))) (tNilD))) (tCD (.int 60)))) (tSlot 2) (tCD (.str "great")))))
theorem dv__law_due (T : Txt K mg E_Unlike E_TooGreat) (hB : SysB base) {k : Nat} {f : Addr} {cdv : Value} {A : Around} {outer : List Env} {s : Shared} {H : Hp} (hr : RoomG k (A.deeper (envOfC "_law_due" (defScope s__law_due) s.heap.objs.size f cdv))) {sp__law_then : SpD} (h__law_then : Has P w K mg base k "_law_then" ["_law_one_here", "_law_other"] sp__law_then) :
    DSs (cxOf CX0 P w K mg base N__law_due "_law_due" (defScope s__law_due) f cdv A outer s H E0).nox (defBody s__law_due) (rd__law_due sp__law_then) :=
  dss_cons (ds_if (dt_ne hr hB (de_ixX hr (de_slot 0 (pv 0)) (de_int)) (de_ixX hr (de_slot 1 (pv 1)) (de_int))) (dss_one (ds_ret (de_str))) (dss_nil))
    (dss_cons (ds_set 2 sc__law_due.nd (de_call h__law_then hr (da_cons (de_slot 0 (pv 0)) (da_cons (de_slot 1 (pv 1)) (da_nil)))))
    (dss_one (ds_ret (de_if (dt_le (de_callB call_lenRD T.b_len bt_len (da_cons (de_ixX hr (de_slot 2 (pv 2)) (de_int)) (da_nil))) (de_int)) (de_slot 2 (pv 2)) (de_str)))))
theorem mk__law_due (D : DefOf K mg "_law_due" s__law_due) (T : Txt K mg E_Unlike E_TooGreat) (hB : SysB base) {k : Nat} {sp__law_then : SpD} (h__law_then : Has P w K mg base k "_law_then" ["_law_one_here", "_law_other"] sp__law_then) {sp : SpD} (len : ∀ ds S Q, sp ds S Q → ds.length = 2) (hq : ∀ ds S Qd, sp ds S Qd → rd__law_due sp__law_then { nx := fun _ S2 => fin Qd .non S2, rt := fin Qd, bk := fun _ _ => False, ct := fun _ _ => False } (pad 3 ds) S) : Has P w K mg base (k + 1) "_law_due" ["_law_one_here", "_law_other"] sp :=
  let ⟨f, fd, F, hm⟩ := D.ex
  .of F hm (F.binds fun _ _ _ _ _ _ us hl => match us, hl with | [_, _], _ => rfl) (FnD.of F sc__law_due _ len (fun cdv A outer s H hr => dv__law_due T hB hr h__law_then) hq)
abbrev s_law : Stmt := top 28
abbrev N_law : List Str := ["_law_script", "_law_deck_here", "_law_turn", "_law_letters", "_law_ranks", "_law_one_here", "_law_other", "_law_alien", "_law_first", "_law_second", "_law_size", "_law_wide", "_law_letter", "_law_row"]
theorem sc_law : FnScope N_law ["_law_script"] (defScope s_law) := ⟨rfl, rfl, rfl, by decide +kernel, rfl, by decide +kernel, by decide +kernel⟩
def rd_law (sp__law_deck : SpD) (sp__law_draw : SpD) (sp__law_one : SpD) (sp_by_ranks : SpD) (sp_by_length : SpD) (sp__law_ranked : SpD) (sp__law_comp : SpD) (sp__law_order : SpD) (sp_turned : SpD) (sp__law_turned : SpD) (sp__law_told : SpD) (sp__law_due : SpD) (sp__law_columns : SpD) : TSD :=
  sSeqD (sAsgD (tCallD sp__law_deck (tConsD (tSlot 0) (tNilD))) (gNameD 1))
  (sSeqD (sForD (iRng1D (tConsD (tCD (.int 7)) (tNilD))) (gNameD 2) (sSeqD (sAsgD (tBin rAddD (tCD (.int 1)) (tCallD sp__law_draw (tConsD (tSlot 1) (tConsD (tCD (.int 3)) (tNilD))))) (gNameD 3))
  (sSeqD (sAsgD (tCallD rTupleD (tConsD (tLcV (iRng1D (tConsD (tSlot 3) (tNilD))) (gNameD 12) (tYesD) (tCallD sp__law_one (tConsD (tSlot 1) (tConsD (tLstV (tConsD (tCD (.int 0)) (tConsD (tCD (.int 1)) (tConsD (tCD (.int 2)) (tConsD (tUnD rNeg (tCD (.int 5))) (tConsD (tBin rPowD (tCD (.int 10)) (tCD (.int 30))) (tNilD))))))) (tNilD)))) [12]) (tNilD))) (gNameD 4))
  (sSeqD (sIfD (tTst (tBin rNeD (tCallD rReprD (tConsD (tLstV (tConsD (tCallD sp_by_ranks (tConsD (tSlot 3) (tConsD (tSlot 4) (tNilD)))) (tConsD (tCallD sp_by_length (tConsD (tSlot 3) (tNilD))) (tNilD)))) (tNilD))) (tCallD rReprD (tConsD (tLstV (tConsD (tCallD sp__law_ranked (tConsD (tSlot 3) (tConsD (tSlot 4) (tNilD)))) (tConsD (tCallD sp__law_ranked (tConsD (tSlot 3) (tConsD (tBin rMulD (tTupD (tConsD (tCD (.int 0)) (tNilD))) (tSlot 3)) (tNilD)))) (tNilD)))) (tNilD))))) (sRetD (tCD (.bl false))) (sNextD))
  (sSeqD (sAsgD (tCallD sp__law_one (tConsD (tSlot 1) (tConsD (tLstV (tConsD (tCallD sp__law_comp (tConsD (tSlot 1) (tConsD (tSlot 3) (tConsD (tBin rAddD (tCD (.int 1)) (tCallD sp__law_draw (tConsD (tSlot 1) (tConsD (tCD (.int 9)) (tNilD))))) (tNilD))))) (tConsD (tCallD sp__law_order (tConsD (tSlot 1) (tConsD (tSlot 3) (tNilD)))) (tNilD)))) (tNilD)))) (gNameD 5))
  (sSeqD (sAsgD (tCallD sp__law_one (tConsD (tSlot 1) (tConsD (tLstV (tConsD (tCallD sp__law_comp (tConsD (tSlot 1) (tConsD (tSlot 3) (tConsD (tBin rAddD (tCD (.int 1)) (tCallD sp__law_draw (tConsD (tSlot 1) (tConsD (tCD (.int 9)) (tNilD))))) (tNilD))))) (tConsD (tCallD sp__law_order (tConsD (tSlot 1) (tConsD (tSlot 3) (tNilD)))) (tConsD (tSlot 5) (tNilD))))) (tNilD)))) (gNameD 6))
  (sSeqD (sAsgD (tCallD sp__law_comp (tConsD (tSlot 1) (tConsD (tBin rAddD (tBin rModD (tCallD rIntD (tConsD (tSlot 3) (tNilD))) (tCD (.int 3))) (tCD (.int 1))) (tConsD (tCD (.int 3)) (tNilD))))) (gNameD 7))
  (sSeqD (sIfD (tTst (tBin rNeD (tCallD rReprD (tConsD (tCallD sp_turned (tConsD (tSlot 5) (tNilD))) (tNilD))) (tCallD rReprD (tConsD (tCallD sp__law_turned (tConsD (tSlot 5) (tNilD))) (tNilD))))) (sRetD (tCD (.bl false))) (sNextD))
  (sForD (iAnyD (tLstV (tConsD (tTupD (tConsD (tSlot 5) (tConsD (tSlot 6) (tNilD)))) (tConsD (tTupD (tConsD (tSlot 6) (tConsD (tSlot 5) (tNilD)))) (tConsD (tTupD (tConsD (tSlot 5) (tConsD (tSlot 7) (tNilD)))) (tConsD (tTupD (tConsD (tSlot 7) (tConsD (tSlot 6) (tNilD)))) (tNilD))))))) (gTupD 2 (gConsD (gNameD 8) (gConsD (gNameD 9) (gNilD)))) (sIfD (tTst (tBin rNeD (tCallD rReprD (tConsD (tCallD sp__law_told (tConsD (tSlot 8) (tConsD (tSlot 9) (tNilD)))) (tNilD))) (tCallD rReprD (tConsD (tCallD sp__law_due (tConsD (tSlot 8) (tConsD (tSlot 9) (tNilD)))) (tNilD))))) (sRetD (tCD (.bl false))) (sNextD)))))))))))
  (sSeqD (sAsgD (tBin rAddD (tCD (.int 1)) (tCallD sp__law_draw (tConsD (tSlot 1) (tConsD (tCD (.int 3)) (tNilD))))) (gNameD 3))
  (sSeqD (sAsgD (tBin rAddD (tCD (.int 7)) (tCallD sp__law_draw (tConsD (tSlot 1) (tConsD (tCD (.int 3)) (tNilD))))) (gNameD 10))
  (sSeqD (sAsgD (tCallD rLenD (tConsD (tCallD sp__law_columns (tConsD (tSlot 3) (tNilD))) (tNilD))) (gNameD 11))
  (sSeqD (sAsgD (tTupD (tConsD (tSlot 3) (tConsD (tCallD rTupleD (tConsD (tLcV (iRng1D (tConsD (tSlot 10) (tNilD))) (gNameD 13) (tYesD) (tBin rMulD (tTupD (tConsD (tBin rModD (tCallD rIntD (tConsD (tBin rAddD (tSlot 13) (tCD (.int 1))) (tNilD))) (tSlot 10)) (tNilD))) (tSlot 11)) [13]) (tNilD))) (tConsD (tBin rMulD (tTupD (tConsD (tCD (.int 0)) (tNilD))) (tSlot 10)) (tNilD))))) (gNameD 5))
  (sSeqD (sAsgD (tTupD (tConsD (tSlot 3) (tConsD (tCallD rTupleD (tConsD (tLcV (iRng1D (tConsD (tBin rAddD (tSlot 10) (tCD (.int 1))) (tNilD))) (gNameD 13) (tYesD) (tBin rMulD (tTupD (tConsD (tBin rModD (tCallD rIntD (tConsD (tBin rAddD (tSlot 13) (tCD (.int 1))) (tNilD))) (tBin rAddD (tSlot 10) (tCD (.int 1)))) (tNilD))) (tSlot 11)) [13]) (tNilD))) (tConsD (tBin rMulD (tTupD (tConsD (tCD (.int 0)) (tNilD))) (tBin rAddD (tSlot 10) (tCD (.int 1)))) (tNilD))))) (gNameD 6))
  (sRetD (tBin rEqD (tCallD rReprD (tConsD (tCallD sp__law_told (tConsD (tSlot 5) (tConsD (tSlot 6) (tNilD)))) (tNilD))) (tCallD rReprD (tConsD (tCallD sp__law_due (tConsD (tSlot 5) (tConsD (tSlot 6) (tNilD)))) (tNilD)))))))))))
theorem dv_law (T : Txt K mg E_Unlike E_TooGreat) (hB : SysB base) {k : Nat} {f : Addr} {cdv : Value} {A : Around} {outer : List Env} {s : Shared} {H : Hp} (hr : RoomG k (A.deeper (envOfC "law" (defScope s_law) s.heap.objs.size f cdv))) {sp__law_deck : SpD} (h__law_deck : Has P w K mg base k "_law_deck" ["_law_script"] sp__law_deck) {sp__law_draw : SpD} (h__law_draw : Has P w K mg base k "_law_draw" ["_law_deck_here", "_law_most"] sp__law_draw) {sp__law_one : SpD} (h__law_one : Has P w K mg base k "_law_one" ["_law_deck_here", "_law_items"] sp__law_one) {sp_by_ranks : SpD} (h_by_ranks : Has P w K mg base k "by_ranks" ["letters", "ranks"] sp_by_ranks) {sp_by_length : SpD} (h_by_length : Has P w K mg base k "by_length" ["letters"] sp_by_length) {sp__law_ranked : SpD} (h__law_ranked : Has P w K mg base k "_law_ranked" ["_law_letters", "_law_ranks"] sp__law_ranked) {sp__law_comp : SpD} (h__law_comp : Has P w K mg base k "_law_comp" ["_law_deck_here", "_law_letters", "_law_many"] sp__law_comp) {sp__law_order : SpD} (h__law_order : Has P w K mg base k "_law_order" ["_law_deck_here", "_law_letters"] sp__law_order) {sp_turned : SpD} (h_turned : Has P w K mg base k "turned" ["comp"] sp_turned) {sp__law_turned : SpD} (h__law_turned : Has P w K mg base k "_law_turned" ["_law_comp_here"] sp__law_turned) {sp__law_told : SpD} (h__law_told : Has P w K mg base k "_law_told" ["_law_one_here", "_law_other"] sp__law_told) {sp__law_due : SpD} (h__law_due : Has P w K mg base k "_law_due" ["_law_one_here", "_law_other"] sp__law_due) {sp__law_columns : SpD} (h__law_columns : Has P w K mg base k "_law_columns" ["_law_letters"] sp__law_columns) :
    DSs (cxOf CX0 P w K mg base N_law "law" (defScope s_law) f cdv A outer s H E0).nox (defBody s_law) (rd_law sp__law_deck sp__law_draw sp__law_one sp_by_ranks sp_by_length sp__law_ranked sp__law_comp sp__law_order sp_turned sp__law_turned sp__law_told sp__law_due sp__law_columns) :=
  dss_cons (ds_set 1 sc_law.nd (de_call h__law_deck hr (da_cons (de_slot 0 (pv 0)) (da_nil))))
    (dss_cons (ds_for PassesOwn.never (di_range1 T.b_range (da_cons (de_int) (da_nil))) (dg_name 2 (pg_name (i := 2) sc_law.nd rfl (Or.inl rfl))) (dss_cons (ds_set 3 sc_law.nd (de_add (de_int) (de_call h__law_draw hr (da_cons (de_slot 1 (pv 1)) (da_cons (de_int) (da_nil))))))
    (dss_cons (ds_set 4 sc_law.nd (de_callTy call_tupleRD T.b_tuple bt_tuple (da_cons (de_lcV (own := [("_law_letter", 12)]) sc_law.nd (di_range1 T.b_range (da_cons (de_slot 3 (pv 3)) (da_nil))) (blkOk_by (own := [("_law_letter", 12)]) (N := N_law) (sc := defScope s_law) (by decide +kernel)) (fun _ _ _ _ _ => dgw_name 12 (by decide) (pg_name (i := 12) sc_law.nd rfl (Or.inl rfl))) (fun _ _ _ _ _ => dts_nil) (fun _ _ _ _ _ => de_call h__law_one hr (da_cons (de_slot 1 (pv 1)) (da_cons (de_lstV (da_cons (de_int) (da_cons (de_int) (da_cons (de_int) (da_cons (de_neg (de_int)) (da_cons (de_pow (de_int) (de_int)) (da_nil))))))) (da_nil))))) (da_nil))))
    (dss_cons (ds_if (dt_ne hr hB (de_callB (call_reprD _ hr hB) T.b_repr bt_repr (da_cons (de_lstV (da_cons (de_call h_by_ranks hr (da_cons (de_slot 3 (pv 3)) (da_cons (de_slot 4 (pv 4)) (da_nil)))) (da_cons (de_call h_by_length hr (da_cons (de_slot 3 (pv 3)) (da_nil))) (da_nil)))) (da_nil))) (de_callB (call_reprD _ hr hB) T.b_repr bt_repr (da_cons (de_lstV (da_cons (de_call h__law_ranked hr (da_cons (de_slot 3 (pv 3)) (da_cons (de_slot 4 (pv 4)) (da_nil)))) (da_cons (de_call h__law_ranked hr (da_cons (de_slot 3 (pv 3)) (da_cons (de_mul (de_tup (da_cons (de_int) (da_nil))) (de_slot 3 (pv 3))) (da_nil)))) (da_nil)))) (da_nil)))) (dss_one (ds_ret (de_bl))) (dss_nil))
    (dss_cons (ds_set 5 sc_law.nd (de_call h__law_one hr (da_cons (de_slot 1 (pv 1)) (da_cons (de_lstV (da_cons (de_call h__law_comp hr (da_cons (de_slot 1 (pv 1)) (da_cons (de_slot 3 (pv 3)) (da_cons (de_add (de_int) (de_call h__law_draw hr (da_cons (de_slot 1 (pv 1)) (da_cons (de_int) (da_nil))))) (da_nil))))) (da_cons (de_call h__law_order hr (da_cons (de_slot 1 (pv 1)) (da_cons (de_slot 3 (pv 3)) (da_nil)))) (da_nil)))) (da_nil)))))
    (dss_cons (ds_set 6 sc_law.nd (de_call h__law_one hr (da_cons (de_slot 1 (pv 1)) (da_cons (de_lstV (da_cons (de_call h__law_comp hr (da_cons (de_slot 1 (pv 1)) (da_cons (de_slot 3 (pv 3)) (da_cons (de_add (de_int) (de_call h__law_draw hr (da_cons (de_slot 1 (pv 1)) (da_cons (de_int) (da_nil))))) (da_nil))))) (da_cons (de_call h__law_order hr (da_cons (de_slot 1 (pv 1)) (da_cons (de_slot 3 (pv 3)) (da_nil)))) (da_cons (de_slot 5 (pv 5)) (da_nil))))) (da_nil)))))
    (dss_cons (ds_set 7 sc_law.nd (de_call h__law_comp hr (da_cons (de_slot 1 (pv 1)) (da_cons (de_add (de_mod (de_callTy call_intRD T.b_int bt_int (da_cons (de_slot 3 (pv 3)) (da_nil))) (de_int)) (de_int)) (da_cons (de_int) (da_nil))))))
    (dss_cons (ds_if (dt_ne hr hB (de_callB (call_reprD _ hr hB) T.b_repr bt_repr (da_cons (de_call h_turned hr (da_cons (de_slot 5 (pv 5)) (da_nil))) (da_nil))) (de_callB (call_reprD _ hr hB) T.b_repr bt_repr (da_cons (de_call h__law_turned hr (da_cons (de_slot 5 (pv 5)) (da_nil))) (da_nil)))) (dss_one (ds_ret (de_bl))) (dss_nil))
    (dss_one (ds_for PassesOwn.never (di_any (de_lstV (da_cons (de_tup (da_cons (de_slot 5 (pv 5)) (da_cons (de_slot 6 (pv 6)) (da_nil)))) (da_cons (de_tup (da_cons (de_slot 6 (pv 6)) (da_cons (de_slot 5 (pv 5)) (da_nil)))) (da_cons (de_tup (da_cons (de_slot 5 (pv 5)) (da_cons (de_slot 7 (pv 7)) (da_nil)))) (da_cons (de_tup (da_cons (de_slot 7 (pv 7)) (da_cons (de_slot 6 (pv 6)) (da_nil)))) (da_nil))))))) (dg_tup rfl (dgs_cons (dg_name 8 (pg_name (i := 8) sc_law.nd rfl (Or.inl rfl))) (dgs_cons (dg_name 9 (pg_name (i := 9) sc_law.nd rfl (Or.inl rfl))) (dgs_nil)))) (dss_one (ds_if (dt_ne hr hB (de_callB (call_reprD _ hr hB) T.b_repr bt_repr (da_cons (de_call h__law_told hr (da_cons (de_slot 8 (pv 8)) (da_cons (de_slot 9 (pv 9)) (da_nil)))) (da_nil))) (de_callB (call_reprD _ hr hB) T.b_repr bt_repr (da_cons (de_call h__law_due hr (da_cons (de_slot 8 (pv 8)) (da_cons (de_slot 9 (pv 9)) (da_nil)))) (da_nil)))) (dss_one (ds_ret (de_bl))) (dss_nil)))))))))))))
    (dss_cons (ds_set 3 sc_law.nd (de_add (de_int) (de_call h__law_draw hr (da_cons (de_slot 1 (pv 1)) (da_cons (de_int) (da_nil))))))
    (dss_cons (ds_set 10 sc_law.nd (de_add (de_int) (de_call h__law_draw hr (da_cons (de_slot 1 (pv 1)) (da_cons (de_int) (da_nil))))))
    (dss_cons (ds_set 11 sc_law.nd (de_callB call_lenRD T.b_len bt_len (da_cons (de_call h__law_columns hr (da_cons (de_slot 3 (pv 3)) (da_nil))) (da_nil))))
    (dss_cons (ds_set 5 sc_law.nd (de_tup (da_cons (de_slot 3 (pv 3)) (da_cons (de_callTy call_tupleRD T.b_tuple bt_tuple (da_cons (de_lcV (own := [("_law_row", 13)]) sc_law.nd (di_range1 T.b_range (da_cons (de_slot 10 (pv 10)) (da_nil))) (blkOk_by (own := [("_law_row", 13)]) (N := N_law) (sc := defScope s_law) (by decide +kernel)) (fun _ _ _ _ _ => dgw_name 13 (by decide) (pg_name (i := 13) sc_law.nd rfl (Or.inl rfl))) (fun _ _ _ _ _ => dts_nil) (fun _ _ _ _ _ => de_mul (de_tup (da_cons (de_mod (de_callTy call_intRD T.b_int bt_int (da_cons (de_add (de_slot 13 (pv 13)) (de_int)) (da_nil))) (de_slot 10 (pv 10))) (da_nil))) (de_slot 11 (pv 11)))) (da_nil))) (da_cons (de_mul (de_tup (da_cons (de_int) (da_nil))) (de_slot 10 (pv 10))) (da_nil))))))
    (dss_cons (ds_set 6 sc_law.nd (de_tup (da_cons (de_slot 3 (pv 3)) (da_cons (de_callTy call_tupleRD T.b_tuple bt_tuple (da_cons (de_lcV (own := [("_law_row", 13)]) sc_law.nd (di_range1 T.b_range (da_cons (de_add (de_slot 10 (pv 10)) (de_int)) (da_nil))) (blkOk_by (own := [("_law_row", 13)]) (N := N_law) (sc := defScope s_law) (by decide +kernel)) (fun _ _ _ _ _ => dgw_name 13 (by decide) (pg_name (i := 13) sc_law.nd rfl (Or.inl rfl))) (fun _ _ _ _ _ => dts_nil) (fun _ _ _ _ _ => de_mul (de_tup (da_cons (de_mod (de_callTy call_intRD T.b_int bt_int (da_cons (de_add (de_slot 13 (pv 13)) (de_int)) (da_nil))) (de_add (de_slot 10 (pv 10)) (de_int))) (da_nil))) (de_slot 11 (pv 11)))) (da_nil))) (da_cons (de_mul (de_tup (da_cons (de_int) (da_nil))) (de_add (de_slot 10 (pv 10)) (de_int))) (da_nil))))))
    (dss_one (ds_ret (de_eq hr hB (de_callB (call_reprD _ hr hB) T.b_repr bt_repr (da_cons (de_call h__law_told hr (da_cons (de_slot 5 (pv 5)) (da_cons (de_slot 6 (pv 6)) (da_nil)))) (da_nil))) (de_callB (call_reprD _ hr hB) T.b_repr bt_repr (da_cons (de_call h__law_due hr (da_cons (de_slot 5 (pv 5)) (da_cons (de_slot 6 (pv 6)) (da_nil)))) (da_nil))))))))))))
theorem mk_law (D : DefOf K mg "law" s_law) (T : Txt K mg E_Unlike E_TooGreat) (hB : SysB base) {k : Nat} {sp__law_deck : SpD} (h__law_deck : Has P w K mg base k "_law_deck" ["_law_script"] sp__law_deck) {sp__law_draw : SpD} (h__law_draw : Has P w K mg base k "_law_draw" ["_law_deck_here", "_law_most"] sp__law_draw) {sp__law_one : SpD} (h__law_one : Has P w K mg base k "_law_one" ["_law_deck_here", "_law_items"] sp__law_one) {sp_by_ranks : SpD} (h_by_ranks : Has P w K mg base k "by_ranks" ["letters", "ranks"] sp_by_ranks) {sp_by_length : SpD} (h_by_length : Has P w K mg base k "by_length" ["letters"] sp_by_length) {sp__law_ranked : SpD} (h__law_ranked : Has P w K mg base k "_law_ranked" ["_law_letters", "_law_ranks"] sp__law_ranked) {sp__law_comp : SpD} (h__law_comp : Has P w K mg base k "_law_comp" ["_law_deck_here", "_law_letters", "_law_many"] sp__law_comp) {sp__law_order : SpD} (h__law_order : Has P w K mg base k "_law_order" ["_law_deck_here", "_law_letters"] sp__law_order) {sp_turned : SpD} (h_turned : Has P w K mg base k "turned" ["comp"] sp_turned) {sp__law_turned : SpD} (h__law_turned : Has P w K mg base k "_law_turned" ["_law_comp_here"] sp__law_turned) {sp__law_told : SpD} (h__law_told : Has P w K mg base k "_law_told" ["_law_one_here", "_law_other"] sp__law_told) {sp__law_due : SpD} (h__law_due : Has P w K mg base k "_law_due" ["_law_one_here", "_law_other"] sp__law_due) {sp__law_columns : SpD} (h__law_columns : Has P w K mg base k "_law_columns" ["_law_letters"] sp__law_columns) {sp : SpD} (len : ∀ ds S Q, sp ds S Q → ds.length = 1) (hq : ∀ ds S Qd, sp ds S Qd → rd_law sp__law_deck sp__law_draw sp__law_one sp_by_ranks sp_by_length sp__law_ranked sp__law_comp sp__law_order sp_turned sp__law_turned sp__law_told sp__law_due sp__law_columns { nx := fun _ S2 => fin Qd .non S2, rt := fin Qd, bk := fun _ _ => False, ct := fun _ _ => False } (pad 14 ds) S) : Has P w K mg base (k + 1) "law" ["_law_script"] sp :=
  let ⟨f, fd, F, hm⟩ := D.ex
  .of F hm (F.binds fun _ _ _ _ _ _ us hl => match us, hl with | [_], _ => rfl) (FnD.of F sc_law _ len (fun cdv A outer s H hr => dv_law T hB hr h__law_deck h__law_draw h__law_one h_by_ranks h_by_length h__law_ranked h__law_comp h__law_order h_turned h__law_turned h__law_told h__law_due h__law_columns) hq)
end
end K37
end

section
/-! P36a: columns. -/
namespace K37
open PySem PySem.Spec PyProof.Rows PD
local macro_rules | `(tactic| walk_at "rdx") => `(tactic| simp only [PD.pad, PD.gt_z, PD.gt_s, PD.st_z, PD.st_s, PD.sNextD, PD.sSeqD, PD.sBreakD, PD.sContD, PD.sDropD, PD.sRetD, PD.sRetND, PD.sIfD, PD.sNeverD, PD.sAsgD, PD.sPar2, PD.sPar3, PD.gNameD, PD.gNilD, PD.gConsD, PD.gTupD, PD.gSubD, PD.tNilD, PD.tConsD, PD.tTupD, PD.tLstV, PD.tLstR, PD.tBin, PD.tTst, PD.tAndD, PD.tOrD, PD.tNotD, PD.tIfD, PD.tAndV, PD.tOrV, PD.tNotV, PD.tUnD, PD.rNeg, PD.tCallD, PD.tSlot, PD.tCD, PD.tChainD, PD.rIsN, PD.rNotN, PD.rIsiD, PD.isi_non, PD.isi_bl, PD.isi_int, PD.isi_str, PD.isi_tup, PD.isi_lst, PD.isi_dic, PD.Ty.name, PD.rCmpI, PD.fLt, PD.fLe, PD.fGt, PD.fGe, PD.rAddD, PD.rSubD, PD.rFdivD, PD.rModD, PD.rPowD, PD.rMulD, PD.rAddR, PD.rMulR, PD.asSeq, PD.asLst, PD.rLenD, PD.rTupleD, PD.rListV, PD.rListR, PD.rIntD, PD.rBoolD, PD.rAbsD, PD.rIxD, PD.oNone, PD.oSome, PD.tSlD, PD.rSlD, PD.tRevTD, PD.rEqD, PD.rNeD, PD.nrm_non, PD.nrm_bl, PD.nrm_int, PD.nrm_str, PD.nrm_tup, PD.nrm_lst, PD.nrm_dic, PD.nrm_ref, PD.iSeqD, PD.iRng1D, PD.iRng2D, PD.sForD, PD.tLcV, PD.tLcR, PD.tYesD, PD.wipeD, PD.tMethL, PD.rAppD, PD.isRefL, PD.tDicV, PD.keyOf, PD.asDic, PD.srcD, PD.iAnyD, PD.iZipD, PD.iEnumD, PD.tDcV, PD.tDicR, PD.gSubX, PD.rSetX, PD.rIxX, PD.rInD, PD.rInX, PD.rInY, PD.rInZ, PD.rSumD, PD.tRevLD, PD.tRevX, PD.rSixD, PD.rJoinD, PD.tMethS, PD.rLixD, PD.rPopD, PD.rExtD, PD.tMethA, PD.rSetD, PD.rReprD, PD.eqk_int, PD.eqd_int, PD.eqk_str, PD.eqd_str, PD.eqk_lst0, PD.eqd_lst0, PD.eqk_tup0, PD.eqd_tup0, PD.tdOf, PD.rInW, PD.rIxW, PD.rSetW, PD.gSubW, PD.rLenW, PD.rGetW, PD.rGetAt, PD.tMethW, PD.rSetdW, PD.tDispR, PD.tPairsD, PD.putAll, PD.tDisp1T, PD.gSeqD, PD.rListW, PD.tLenSetD, PD.tFldD, PD.fldD, PD.tMethC, PD.methD, PD.tMakeD, PD.sFldD, PD.tMethB, PD.rLjD, PD.tCallX, PD.sRetX, PD.sRaiseD, PD.sTryD, PD.hdlD, PD.noX, PD.rExtX, PD.rTupleX, PD.gUnpD, PD.tDictZ, PD.rInP, PD.rLixP, PD.tCallE, PD.tNilL, PD.tConsL, PD.tLamL, PD.tCallL, PD.tDispV, Option.map_some, Option.bind_some, PD.spFn, PD.spDraw, reduceIte, true_and, and_true, or_false, false_or, Bool.not_true, Bool.not_false, Bool.false_eq_true, List.length_cons, List.length_nil, List.set_cons_zero, List.set_cons_succ, PD.HD.set_same, PD.HD.tick_hp, PD.HD.tick_c, PD.HD.tick_dk, PD.HD.set_c, PD.HD.set_dk])
local macro_rules | `(tactic| simp_all only [$xs,*]) => `(tactic| simp only [PD.pad, PD.gt_z, PD.gt_s, PD.st_z, PD.st_s, PD.sNextD, PD.sSeqD, PD.sBreakD, PD.sContD, PD.sDropD, PD.sRetD, PD.sRetND, PD.sIfD, PD.sNeverD, PD.sAsgD, PD.sPar2, PD.sPar3, PD.gNameD, PD.gNilD, PD.gConsD, PD.gTupD, PD.gSubD, PD.tNilD, PD.tConsD, PD.tTupD, PD.tLstV, PD.tLstR, PD.tBin, PD.tTst, PD.tAndD, PD.tOrD, PD.tNotD, PD.tIfD, PD.tAndV, PD.tOrV, PD.tNotV, PD.tUnD, PD.rNeg, PD.tCallD, PD.tSlot, PD.tCD, PD.tChainD, PD.rIsN, PD.rNotN, PD.rIsiD, PD.isi_non, PD.isi_bl, PD.isi_int, PD.isi_str, PD.isi_tup, PD.isi_lst, PD.isi_dic, PD.Ty.name, PD.rCmpI, PD.fLt, PD.fLe, PD.fGt, PD.fGe, PD.rAddD, PD.rSubD, PD.rFdivD, PD.rModD, PD.rPowD, PD.rMulD, PD.rAddR, PD.rMulR, PD.asSeq, PD.asLst, PD.rLenD, PD.rTupleD, PD.rListV, PD.rListR, PD.rIntD, PD.rBoolD, PD.rAbsD, PD.rIxD, PD.oNone, PD.oSome, PD.tSlD, PD.rSlD, PD.tRevTD, PD.rEqD, PD.rNeD, PD.nrm_non, PD.nrm_bl, PD.nrm_int, PD.nrm_str, PD.nrm_tup, PD.nrm_lst, PD.nrm_dic, PD.nrm_ref, PD.iSeqD, PD.iRng1D, PD.iRng2D, PD.sForD, PD.tLcV, PD.tLcR, PD.tYesD, PD.wipeD, PD.tMethL, PD.rAppD, PD.isRefL, PD.tDicV, PD.keyOf, PD.asDic, PD.srcD, PD.iAnyD, PD.iZipD, PD.iEnumD, PD.tDcV, PD.tDicR, PD.gSubX, PD.rSetX, PD.rIxX, PD.rInD, PD.rInX, PD.rInY, PD.rInZ, PD.rSumD, PD.tRevLD, PD.tRevX, PD.rSixD, PD.rJoinD, PD.tMethS, PD.rLixD, PD.rPopD, PD.rExtD, PD.tMethA, PD.rSetD, PD.rReprD, PD.eqk_int, PD.eqd_int, PD.eqk_str, PD.eqd_str, PD.eqk_lst0, PD.eqd_lst0, PD.eqk_tup0, PD.eqd_tup0, PD.tdOf, PD.rInW, PD.rIxW, PD.rSetW, PD.gSubW, PD.rLenW, PD.rGetW, PD.rGetAt, PD.tMethW, PD.rSetdW, PD.tDispR, PD.tPairsD, PD.putAll, PD.tDisp1T, PD.gSeqD, PD.rListW, PD.tLenSetD, PD.tFldD, PD.fldD, PD.tMethC, PD.methD, PD.tMakeD, PD.sFldD, PD.tMethB, PD.rLjD, PD.tCallX, PD.sRetX, PD.sRaiseD, PD.sTryD, PD.hdlD, PD.noX, PD.rExtX, PD.rTupleX, PD.gUnpD, PD.tDictZ, PD.rInP, PD.rLixP, PD.tCallE, PD.tNilL, PD.tConsL, PD.tLamL, PD.tCallL, PD.tDispV, Option.map_some, Option.bind_some, PD.spFn, PD.spDraw, reduceIte, true_and, and_true, or_false, false_or, Bool.not_true, Bool.not_false, Bool.false_eq_true, List.length_cons, List.length_nil, List.set_cons_zero, List.set_cons_succ, PD.HD.set_same, PD.HD.tick_hp, PD.HD.tick_c, PD.HD.tick_dk, PD.HD.set_c, PD.HD.set_dk, $xs,*])
def zs : Nat → Str
  | 1 => "a."
  | 2 => "ab."
  | _ => "abc."
def glue (a b : D) : Option D := match a, b with
  | .str x, .str y => some (.str (x ++ y))
  | _, _ => none
/-- all columns of the signs of a text -/
def colsZ (z : Str) : List D := (signsD z).flatMap fun a => (signsD z).filterMap (glue a)
def cols (L : Nat) : List D := (colsZ (zs L)).dropLast
def spCols : SpD := fun ds S Q => ∃ L : Nat, ds = [.int (L : Nat)] ∧ 1 ≤ L ∧ L ≤ 3 ∧ Q (.tup (cols L)) S
def spColsL : SpD := fun ds S Q => ∃ L : Nat, ds = [.int (L : Nat)] ∧ 1 ≤ L ∧ L ≤ 3 ∧ Q (.lst (cols L)) S
theorem cols_len (ds : List D) (S : HD) (Q : QD) (h : spCols ds S Q) : ds.length = 1 := by
  obtain ⟨_, rfl, _⟩ := h
  rfl
theorem colsL_len (ds : List D) (S : HD) (Q : QD) (h : spColsL ds S Q) : ds.length = 1 := by
  obtain ⟨_, rfl, _⟩ := h
  rfl
theorem fm_le {α β : Type} {f : α → List β} {m : Nat} (h : ∀ x, (f x).length ≤ m) : ∀ xs : List α, (xs.flatMap f).length ≤ xs.length * m
  | [] => by simp
  | x :: xs => by
    rw [List.flatMap_cons, List.length_append, List.length_cons, Nat.add_mul]
    have := h x
    have := fm_le h xs
    omega
theorem cols_ok (ds : List D) (S : HD) (Q : QD) (h : spCols ds S Q) : rd_columns (ends Q) (pad 5 ds) S := by
  obtain ⟨L, rfl, h1, h3, q⟩ := h
  unfold rd_columns
  refine seq_step fun N1 hN1 => ?_
  have lz : ∀ z : Str, z = zs L → z.length = L + 1 := fun z e => by
    subst e
    obtain rfl | rfl | rfl : L = 1 ∨ L = 2 ∨ L = 3 := by omega
    all_goals decide +kernel
  have ez : L2.cutS (Str.ofString "abc") none (some (L : Int)) ++ Str.ofString "." = zs L := by
    obtain rfl | rfl | rfl : L = 1 ∨ L = 2 ∨ L = 3 := by omega
    all_goals decide +kernel
  have ll : (L2.cutS (Str.ofString "abc") none (some (L : Int))).length = L := by
    obtain rfl | rfl | rfl : L = 1 ∨ L = 2 ∨ L = 3 := by omega
    all_goals decide +kernel
  have hsl : (sizeLine : Nat) = 16777216 := rfl
  have l3 : (Str.ofString "abc").length = 3 := by decide +kernel
  have l1 : (Str.ofString ".").length = 1 := by decide +kernel
  walk_at "rdx"
  rw [l3, ll, l1, ez]
  refine ⟨by omega, by omega, by decide, fun p hp => hN1 _ _ ?_⟩
  clear hN1 N1
  refine seq_step fun N1 hN1 => ?_
  generalize hB : sDropD _ = B1
  walk_at "rdx"
  refine loopD_go (fun i σ S' => (∃ v3, σ = [some (.int (L : Nat)), some (.str (zs L)), some (.ref p), v3, none]) ∧ S'.hp p = some (.lst (((signsD (zs L)).take i).flatMap fun a => (signsD (zs L)).filterMap (glue a))) ∧ Up 0 S S') ⟨⟨_, rfl⟩, HD.set_same, (Up.refl S).set hp⟩ (fun i d σ S' N hi ⟨⟨v3, e1⟩, e2, e3⟩ kk => ⟨trivial, ?_⟩) fun σ S' ⟨⟨v3, e1⟩, e2, e3⟩ => ⟨trivial, ?_⟩
  · subst e1
    obtain ⟨x, hx, rfl⟩ : ∃ x, x ∈ (zs L).cps.toList ∧ d = .str ⟨#[x]⟩ := by
      obtain ⟨x, hx, e⟩ := List.mem_map.mp (List.mem_of_getElem? hi)
      exact ⟨x, hx, e.symm⟩
    walk_at "rdx"
    subst hB
    walk_at "rdx"
    refine ⟨⟨_, by show (match S'.hp p with | some (.lst xs) => some xs | _ => none) = _; rw [e2]⟩, ?_⟩
    have ls : (signsD (zs L)).length = L + 1 := by
      show (List.map _ _).length = _
      rw [List.length_map]
      exact lz _ rfl
    have hb := fm_le (f := fun a => (signsD (zs L)).filterMap (glue a)) (m := L + 1) (fun a => Nat.le_trans (List.length_filterMap_le _ _) (Nat.le_of_eq ls)) ((signsD (zs L)).take i)
    have hb2 : ((signsD (zs L)).take i).length * (L + 1) ≤ 4 * 4 := Nat.mul_le_mul (by rw [List.length_take]; omega) (by omega)
    refine ⟨by omega, lcD_pure (glue (.str ⟨#[x]⟩)) trivial _ _ (fun d hd Q1 Q0 h => ?_) ?_⟩
    · obtain ⟨y, hy, rfl⟩ := List.mem_map.mp hd
      walk_at "rdx"
      exact ⟨by show 1 + 1 ≤ sizeLine; omega, h⟩
    rw [e2, List.nil_append]
    refine ⟨by
      have := Nat.le_trans (List.length_filterMap_le (glue (.str ⟨#[x]⟩)) (signsD (zs L))) (Nat.le_of_eq ls)
      omega, kk _ _ ⟨⟨_, rfl⟩, ?_, e3.set hp⟩⟩
    rw [HD.set_same, List.take_add_one, hi, List.flatMap_append]
    simp
  · subst e1
    refine hN1 _ _ ?_
    clear hN1 N1
    walk_at "rdx"
    rw [e2]
    show fin Q _ S'
    rw [cut_last, List.take_of_length_le (Nat.le_refl _), ← List.dropLast_eq_take]
    exact e3.fin (n := 0) q
theorem colsL_ok (ds : List D) (S : HD) (Q : QD) (h : spColsL ds S Q) : rd__law_columns (ends Q) (pad 5 ds) S := by
  obtain ⟨L, rfl, h1, h3, q⟩ := h
  unfold rd__law_columns
  refine seq_step fun N1 hN1 => ?_
  have lz : ∀ z : Str, z = zs L → z.length = L + 1 := fun z e => by
    subst e
    obtain rfl | rfl | rfl : L = 1 ∨ L = 2 ∨ L = 3 := by omega
    all_goals decide +kernel
  have ez : L2.cutS (Str.ofString "abc") none (some (L : Int)) ++ Str.ofString "." = zs L := by
    obtain rfl | rfl | rfl : L = 1 ∨ L = 2 ∨ L = 3 := by omega
    all_goals decide +kernel
  have ll : (L2.cutS (Str.ofString "abc") none (some (L : Int))).length = L := by
    obtain rfl | rfl | rfl : L = 1 ∨ L = 2 ∨ L = 3 := by omega
    all_goals decide +kernel
  have hsl : (sizeLine : Nat) = 16777216 := rfl
  have l3 : (Str.ofString "abc").length = 3 := by decide +kernel
  have l1 : (Str.ofString ".").length = 1 := by decide +kernel
  walk_at "rdx"
  rw [l3, ll, l1, ez]
  refine ⟨by omega, by omega, by decide, fun p hp => hN1 _ _ ?_⟩
  clear hN1 N1
  refine seq_step fun N1 hN1 => ?_
  generalize hB : sDropD _ = B1
  walk_at "rdx"
  refine loopD_go (fun i σ S' => (∃ v3, σ = [some (.int (L : Nat)), some (.str (zs L)), some (.ref p), v3, none]) ∧ S'.hp p = some (.lst (((signsD (zs L)).take i).flatMap fun a => (signsD (zs L)).filterMap (glue a))) ∧ Up 0 S S') ⟨⟨_, rfl⟩, HD.set_same, (Up.refl S).set hp⟩ (fun i d σ S' N hi ⟨⟨v3, e1⟩, e2, e3⟩ kk => ⟨trivial, ?_⟩) fun σ S' ⟨⟨v3, e1⟩, e2, e3⟩ => ⟨trivial, ?_⟩
  · subst e1
    obtain ⟨x, hx, rfl⟩ : ∃ x, x ∈ (zs L).cps.toList ∧ d = .str ⟨#[x]⟩ := by
      obtain ⟨x, hx, e⟩ := List.mem_map.mp (List.mem_of_getElem? hi)
      exact ⟨x, hx, e.symm⟩
    walk_at "rdx"
    subst hB
    walk_at "rdx"
    refine ⟨⟨_, by show (match S'.hp p with | some (.lst xs) => some xs | _ => none) = _; rw [e2]⟩, ?_⟩
    have ls : (signsD (zs L)).length = L + 1 := by
      show (List.map _ _).length = _
      rw [List.length_map]
      exact lz _ rfl
    have hb := fm_le (f := fun a => (signsD (zs L)).filterMap (glue a)) (m := L + 1) (fun a => Nat.le_trans (List.length_filterMap_le _ _) (Nat.le_of_eq ls)) ((signsD (zs L)).take i)
    have hb2 : ((signsD (zs L)).take i).length * (L + 1) ≤ 4 * 4 := Nat.mul_le_mul (by rw [List.length_take]; omega) (by omega)
    refine ⟨by omega, lcD_pure (glue (.str ⟨#[x]⟩)) trivial _ _ (fun d hd Q1 Q0 h => ?_) ?_⟩
    · obtain ⟨y, hy, rfl⟩ := List.mem_map.mp hd
      walk_at "rdx"
      exact ⟨by show 1 + 1 ≤ sizeLine; omega, h⟩
    rw [e2, List.nil_append]
    refine ⟨by
      have := Nat.le_trans (List.length_filterMap_le (glue (.str ⟨#[x]⟩)) (signsD (zs L))) (Nat.le_of_eq ls)
      omega, kk _ _ ⟨⟨_, rfl⟩, ?_, e3.set hp⟩⟩
    rw [HD.set_same, List.take_add_one, hi, List.flatMap_append]
    simp
  · subst e1
    refine hN1 _ _ ?_
    clear hN1 N1
    walk_at "rdx"
    rw [e2]
    show fin Q _ S'
    rw [cut_last, List.take_of_length_le (Nat.le_refl _), ← List.dropLast_eq_take]
    exact e3.fin (n := 0) q
end K37
end

section
/-! P37b: by_ranks, by_length. -/
namespace K37
open PySem PySem.Spec PyProof.Rows PD
local macro_rules | `(tactic| walk_at "rdx") => `(tactic| simp only [PD.pad, PD.gt_z, PD.gt_s, PD.st_z, PD.st_s, PD.sNextD, PD.sSeqD, PD.sBreakD, PD.sContD, PD.sDropD, PD.sRetD, PD.sRetND, PD.sIfD, PD.sNeverD, PD.sAsgD, PD.sPar2, PD.sPar3, PD.gNameD, PD.gNilD, PD.gConsD, PD.gTupD, PD.gSubD, PD.tNilD, PD.tConsD, PD.tTupD, PD.tLstV, PD.tLstR, PD.tBin, PD.tTst, PD.tAndD, PD.tOrD, PD.tNotD, PD.tIfD, PD.tAndV, PD.tOrV, PD.tNotV, PD.tUnD, PD.rNeg, PD.tCallD, PD.tSlot, PD.tCD, PD.tChainD, PD.rIsN, PD.rNotN, PD.rIsiD, PD.isi_non, PD.isi_bl, PD.isi_int, PD.isi_str, PD.isi_tup, PD.isi_lst, PD.isi_dic, PD.Ty.name, PD.rCmpI, PD.fLt, PD.fLe, PD.fGt, PD.fGe, PD.rAddD, PD.rSubD, PD.rFdivD, PD.rModD, PD.rPowD, PD.rMulD, PD.rAddR, PD.rMulR, PD.asSeq, PD.asLst, PD.rLenD, PD.rTupleD, PD.rListV, PD.rListR, PD.rIntD, PD.rBoolD, PD.rAbsD, PD.rIxD, PD.oNone, PD.oSome, PD.tSlD, PD.rSlD, PD.tRevTD, PD.rEqD, PD.rNeD, PD.nrm_non, PD.nrm_bl, PD.nrm_int, PD.nrm_str, PD.nrm_tup, PD.nrm_lst, PD.nrm_dic, PD.nrm_ref, PD.iSeqD, PD.iRng1D, PD.iRng2D, PD.sForD, PD.tLcV, PD.tLcR, PD.tYesD, PD.wipeD, PD.tMethL, PD.rAppD, PD.isRefL, PD.tDicV, PD.keyOf, PD.asDic, PD.srcD, PD.iAnyD, PD.iZipD, PD.iEnumD, PD.tDcV, PD.tDicR, PD.gSubX, PD.rSetX, PD.rIxX, PD.rInD, PD.rInX, PD.rInY, PD.rInZ, PD.rSumD, PD.tRevLD, PD.tRevX, PD.rSixD, PD.rJoinD, PD.tMethS, PD.rLixD, PD.rPopD, PD.rExtD, PD.tMethA, PD.rSetD, PD.rReprD, PD.eqk_int, PD.eqd_int, PD.eqk_str, PD.eqd_str, PD.eqk_lst0, PD.eqd_lst0, PD.eqk_tup0, PD.eqd_tup0, PD.tdOf, PD.rInW, PD.rIxW, PD.rSetW, PD.gSubW, PD.rLenW, PD.rGetW, PD.rGetAt, PD.tMethW, PD.rSetdW, PD.tDispR, PD.tPairsD, PD.putAll, PD.tDisp1T, PD.gSeqD, PD.rListW, PD.tLenSetD, PD.tFldD, PD.fldD, PD.tMethC, PD.methD, PD.tMakeD, PD.sFldD, PD.tMethB, PD.rLjD, PD.tCallX, PD.sRetX, PD.sRaiseD, PD.sTryD, PD.hdlD, PD.noX, PD.rExtX, PD.rTupleX, PD.gUnpD, PD.tDictZ, PD.rInP, PD.rLixP, PD.tCallE, PD.tNilL, PD.tConsL, PD.tLamL, PD.tCallL, PD.tDispV, Option.map_some, Option.bind_some, PD.spFn, PD.spDraw, reduceIte, true_and, and_true, or_false, false_or, Bool.not_true, Bool.not_false, Bool.false_eq_true, List.length_cons, List.length_nil, List.set_cons_zero, List.set_cons_succ, PD.HD.set_same, PD.HD.tick_hp, PD.HD.tick_c, PD.HD.tick_dk, PD.HD.set_c, PD.HD.set_dk])
local macro_rules | `(tactic| simp_all only [$xs,*]) => `(tactic| simp only [PD.pad, PD.gt_z, PD.gt_s, PD.st_z, PD.st_s, PD.sNextD, PD.sSeqD, PD.sBreakD, PD.sContD, PD.sDropD, PD.sRetD, PD.sRetND, PD.sIfD, PD.sNeverD, PD.sAsgD, PD.sPar2, PD.sPar3, PD.gNameD, PD.gNilD, PD.gConsD, PD.gTupD, PD.gSubD, PD.tNilD, PD.tConsD, PD.tTupD, PD.tLstV, PD.tLstR, PD.tBin, PD.tTst, PD.tAndD, PD.tOrD, PD.tNotD, PD.tIfD, PD.tAndV, PD.tOrV, PD.tNotV, PD.tUnD, PD.rNeg, PD.tCallD, PD.tSlot, PD.tCD, PD.tChainD, PD.rIsN, PD.rNotN, PD.rIsiD, PD.isi_non, PD.isi_bl, PD.isi_int, PD.isi_str, PD.isi_tup, PD.isi_lst, PD.isi_dic, PD.Ty.name, PD.rCmpI, PD.fLt, PD.fLe, PD.fGt, PD.fGe, PD.rAddD, PD.rSubD, PD.rFdivD, PD.rModD, PD.rPowD, PD.rMulD, PD.rAddR, PD.rMulR, PD.asSeq, PD.asLst, PD.rLenD, PD.rTupleD, PD.rListV, PD.rListR, PD.rIntD, PD.rBoolD, PD.rAbsD, PD.rIxD, PD.oNone, PD.oSome, PD.tSlD, PD.rSlD, PD.tRevTD, PD.rEqD, PD.rNeD, PD.nrm_non, PD.nrm_bl, PD.nrm_int, PD.nrm_str, PD.nrm_tup, PD.nrm_lst, PD.nrm_dic, PD.nrm_ref, PD.iSeqD, PD.iRng1D, PD.iRng2D, PD.sForD, PD.tLcV, PD.tLcR, PD.tYesD, PD.wipeD, PD.tMethL, PD.rAppD, PD.isRefL, PD.tDicV, PD.keyOf, PD.asDic, PD.srcD, PD.iAnyD, PD.iZipD, PD.iEnumD, PD.tDcV, PD.tDicR, PD.gSubX, PD.rSetX, PD.rIxX, PD.rInD, PD.rInX, PD.rInY, PD.rInZ, PD.rSumD, PD.tRevLD, PD.tRevX, PD.rSixD, PD.rJoinD, PD.tMethS, PD.rLixD, PD.rPopD, PD.rExtD, PD.tMethA, PD.rSetD, PD.rReprD, PD.eqk_int, PD.eqd_int, PD.eqk_str, PD.eqd_str, PD.eqk_lst0, PD.eqd_lst0, PD.eqk_tup0, PD.eqd_tup0, PD.tdOf, PD.rInW, PD.rIxW, PD.rSetW, PD.gSubW, PD.rLenW, PD.rGetW, PD.rGetAt, PD.tMethW, PD.rSetdW, PD.tDispR, PD.tPairsD, PD.putAll, PD.tDisp1T, PD.gSeqD, PD.rListW, PD.tLenSetD, PD.tFldD, PD.fldD, PD.tMethC, PD.methD, PD.tMakeD, PD.sFldD, PD.tMethB, PD.rLjD, PD.tCallX, PD.sRetX, PD.sRaiseD, PD.sTryD, PD.hdlD, PD.noX, PD.rExtX, PD.rTupleX, PD.gUnpD, PD.tDictZ, PD.rInP, PD.rLixP, PD.tCallE, PD.tNilL, PD.tConsL, PD.tLamL, PD.tCallL, PD.tDispV, Option.map_some, Option.bind_some, PD.spFn, PD.spDraw, reduceIte, true_and, and_true, or_false, false_or, Bool.not_true, Bool.not_false, Bool.false_eq_true, List.length_cons, List.length_nil, List.set_cons_zero, List.set_cons_succ, PD.HD.set_same, PD.HD.tick_hp, PD.HD.tick_c, PD.HD.tick_dk, PD.HD.set_c, PD.HD.set_dk, $xs,*])
def sg (L a : Nat) : Nat := if a < L then 97 + a else 46
def colP (L : Nat) : List (Nat × Nat) := ((List.range (L + 1)).flatMap fun a => (List.range (L + 1)).map fun b => (a, b)).dropLast
def colZ (L : Nat) (p : Nat × Nat) : Str := ⟨#[sg L p.1, sg L p.2]⟩
def colT (L : Nat) (p : Nat × Nat) : D := .str (colZ L p)
theorem cols_P {L : Nat} (h1 : 1 ≤ L) (h3 : L ≤ 3) : cols L = (colP L).map (colT L) := by
  obtain rfl | rfl | rfl : L = 1 ∨ L = 2 ∨ L = 3 := by omega
  all_goals rfl
theorem colP_mem {L : Nat} {p : Nat × Nat} (h1 : 1 ≤ L) (h3 : L ≤ 3) (h : p ∈ colP L) : p.1 ≤ L ∧ p.2 ≤ L ∧ ¬ (p.1 = L ∧ p.2 = L) := by
  have key : (colP L).all (fun p => decide (p.1 ≤ L ∧ p.2 ≤ L ∧ ¬ (p.1 = L ∧ p.2 = L))) = true := by
    obtain rfl | rfl | rfl : L = 1 ∨ L = 2 ∨ L = 3 := by omega
    all_goals decide
  exact of_decide_eq_true (List.all_eq_true.mp key p h)
theorem colP_len {L : Nat} (h1 : 1 ≤ L) (h3 : L ≤ 3) : (colP L).length ≤ 15 ∧ 3 ≤ (colP L).length := by
  obtain rfl | rfl | rfl : L = 1 ∨ L = 2 ∨ L = 3 := by omega
  all_goals decide
/-- where a column leads first -/
def rk (L : Nat) (r : List Int) (p : Nat × Nat) : Int :=
  if p.1 = L then 1 else if p.2 = L then 2 else if (r.getD p.1 0) - (r.getD p.2 0) = 0 then 0 else if (r.getD p.1 0) - (r.getD p.2 0) < 0 then 1 else 2
def rankD (r : List Int) : D := .dic (putAll ((keysZ (Str.ofString "abc")).zip (r.map D.int)) [])
theorem rank_at {L a : Nat} {r : List Int} (h1 : 1 ≤ L) (h3 : L ≤ 3) (hr : r.length = L) (ha : a < L) : getK (putAll ((keysZ (Str.ofString "abc")).zip (r.map D.int)) []) (.inr ⟨#[97 + a]⟩) = some (.int (r.getD a 0)) := by
  match r, hr with
  | [], hr => simp at hr; omega
  | [x], hr =>
    simp at hr; subst hr
    obtain rfl : a = 0 := by omega
    rfl
  | [x, y], hr =>
    simp at hr; subst hr
    obtain rfl | rfl : a = 0 ∨ a = 1 := by omega
    all_goals rfl
  | [x, y, z], hr =>
    simp at hr; subst hr
    obtain rfl | rfl | rfl : a = 0 ∨ a = 1 ∨ a = 2 := by omega
    all_goals rfl
  | _ :: _ :: _ :: _ :: _, hr => simp at hr; omega
/-- ranks that may be told apart in time -/
def ROk (L : Nat) (r : List Int) : Prop := r.length = L ∧ ∀ x ∈ r, -5 ≤ x ∧ x ≤ 10 ^ 30
def spFirst : SpD := fun ds S Q => ∃ (L : Nat) (r : List Int) (p : Nat × Nat), ds = [colT L p, rankD r] ∧ 1 ≤ L ∧ L ≤ 3 ∧ ROk L r ∧ p ∈ colP L ∧ Q (.int (rk L r p)) S
theorem first_len (ds : List D) (S : HD) (Q : QD) (h : spFirst ds S Q) : ds.length = 2 := by
  obtain ⟨_, _, _, rfl, _⟩ := h
  rfl
theorem sg_dot {L a : Nat} (h3 : L ≤ 3) (ha : a ≤ L) : (sg L a = 46) ↔ a = L := by
  unfold sg
  split <;> omega
theorem first_ok (ds : List D) (S : HD) (Q : QD) (h : spFirst ds S Q) : rd_first_item (ends Q) (pad 3 ds) S := by
  obtain ⟨L, r, p, rfl, h1, h3, hr, hp, q⟩ := h
  have q' := fin.here q
  clear q
  obtain ⟨a1, a2, a3⟩ := colP_mem h1 h3 hp
  unfold rd_first_item
  refine seq_step fun N1 hN1 => ?_
  simp only [colT]
  walk_at "rdx"
  have hs : signOf (Str.ofString ".") = some 46 := by decide +kernel
  rw [hs]
  have hm : decide (46 ∈ (colZ L p).cps.toList) = (decide (p.1 = L) || decide (p.2 = L)) := by
    rw [Bool.eq_iff_iff]
    simp only [colZ, Bool.or_eq_true, decide_eq_true_eq, ← sg_dot h3 a1, ← sg_dot h3 a2, List.mem_cons, List.not_mem_nil, or_false]
    exact ⟨fun h => h.imp Eq.symm Eq.symm, fun h => h.imp Eq.symm Eq.symm⟩
  dsimp only
  rw [hm]
  have z1 : (colZ L p).length ≤ sizeLine := by
    show (2 : Nat) ≤ sizeLine
    decide
  have t0 : L2.atI (colZ L p).cps.toList 0 = some (sg L p.1) := rfl
  have t1 : L2.atI (colZ L p).cps.toList 1 = some (sg L p.2) := rfl
  have dot : Str.ofString "." = ⟨#[46]⟩ := by decide +kernel
  have hd : decide ((⟨#[sg L p.1]⟩ : Str) = Str.ofString ".") = decide (p.1 = L) := by
    rw [dot, Bool.eq_iff_iff, decide_eq_true_eq, decide_eq_true_eq, ← sg_dot h3 a1]
    exact ⟨fun e => by injection e with e; simpa using e, fun e => by rw [e]⟩
  unfold rk at q'
  by_cases e1 : p.1 = L
  · simp only [e1, decide_true, Bool.true_or, if_true, t0] at q' ⊢
    rw [e1] at hd
    refine ⟨z1, ?_⟩
    rw [hd]
    simpa using q'
  · by_cases e2 : p.2 = L
    · simp only [e1, e2, decide_true, decide_false, Bool.false_or, if_true, if_false, t0] at q' ⊢
      refine ⟨z1, ?_⟩
      rw [hd]
      simpa [e1] using q'
    · simp only [e1, e2, decide_false, Bool.or_self, Bool.false_eq_true, if_false] at q' ⊢
      refine hN1 _ _ ?_
      clear hN1 N1
      have l1 : p.1 < L := by omega
      have l2 : p.2 < L := by omega
      have g1 : sg L p.1 = 97 + p.1 := by simp [sg, l1]
      have g2 : sg L p.2 = 97 + p.2 := by simp [sg, l2]
      have r1 := rank_at h1 h3 hr.1 l1
      have r2 := rank_at h1 h3 hr.1 l2
      refine seq_step fun N1 hN1 => ?_
      unfold rankD
      walk_at "rdx"
      simp only [t0, t1, g1, g2]
      refine ⟨z1, ?_⟩
      simp only [PD.putAll] at r1 r2
      rw [r1]
      refine ⟨z1, ?_⟩
      rw [r2]
      refine hN1 _ _ ?_
      clear hN1 N1
      generalize r.getD p.1 0 - r.getD p.2 0 = g at q'
      walk_at "rdx"
      by_cases e3 : g = 0
      · simpa [e3] using q'
      · by_cases e4 : g < 0
        · simpa [e3, e4] using q'
        · simpa [e3, e4] using q'
/-! ### by_ranks -/
def rankedD (L : Nat) (r : List Int) : D :=
  .tup [.int (L : Nat), .tup [.tup ((colP L).map fun p => .int (rk L r p)), .tup (List.replicate (colP L).length (.int 1)), .tup (List.replicate (colP L).length (.int 2))], .tup [.int 0, .int (-1), .int 1]]
def spRanks : SpD := fun ds S Q => ∃ (L : Nat) (r : List Int), ds = [.int (L : Nat), .tup (r.map D.int)] ∧ 1 ≤ L ∧ L ≤ 3 ∧ ROk L r ∧ Q (rankedD L r) S
theorem ranks_len (ds : List D) (S : HD) (Q : QD) (h : spRanks ds S Q) : ds.length = 2 := by
  obtain ⟨_, _, rfl, _⟩ := h
  rfl
theorem find_col {L : Nat} {p : Nat × Nat} (h1 : 1 ≤ L) (h3 : L ≤ 3) (h : p ∈ colP L) : (((colP L).find? fun q => decide (colZ L q = colZ L p)).getD (0, 0)) = p := by
  have key : (colP L).all (fun p => decide ((((colP L).find? fun q => decide (colZ L q = colZ L p)).getD (0, 0)) = p)) = true := by
    obtain rfl | rfl | rfl : L = 1 ∨ L = 2 ∨ L = 3 := by omega
    all_goals decide +kernel
  exact of_decide_eq_true (List.all_eq_true.mp key p h)
theorem fm_map {α β γ : Type} {f : α → β} {g : β → Option γ} {h : α → γ} : ∀ {xs : List α}, (∀ x ∈ xs, g (f x) = some (h x)) → (xs.map f).filterMap g = xs.map h
  | [], _ => rfl
  | x :: xs, e => by
    rw [List.map_cons, List.filterMap_cons, e x List.mem_cons_self, List.map_cons]
    dsimp only
    rw [fm_map fun y hy => e y (List.mem_cons_of_mem _ hy)]
theorem ranks_ok (ds : List D) (S : HD) (Q : QD) (h : spRanks ds S Q) : rd_by_ranks spCols spFirst (ends Q) (pad 6 ds) S := by
  obtain ⟨L, r, rfl, h1, h3, hr, q⟩ := h
  have q' := fin.here q
  clear q
  have hsl : (sizeLine : Nat) = 16777216 := rfl
  obtain ⟨c15, c3⟩ := colP_len h1 h3
  unfold rd_by_ranks
  refine seq_step fun N1 hN1 => ?_
  walk_at "rdx"
  refine ⟨L, rfl, h1, h3, ?_⟩
  rw [cols_P h1 h3]
  dsimp only
  refine ⟨by decide, hN1 _ _ ?_⟩
  clear hN1 N1
  refine seq_step fun N1 hN1 => ?_
  generalize hT : (tCallD spFirst _ : TED) = T0
  generalize hg : gNameD 5 = g0
  walk_at "rdx"
  subst hg
  refine ⟨L, rfl, h1, h3, ?_⟩
  rw [cols_P h1 h3]
  dsimp only
  refine fun hz => ⟨hz, lcD_pure (fun d => match d with
    | .str z => some (.int (rk L r (((colP L).find? fun p => decide (colZ L p = z)).getD (0, 0))))
    | _ => none) trivial _ [] (fun d hd Q1 Q0 h => ?_) ?_⟩
  · obtain ⟨p, hp, rfl⟩ := List.mem_map.mp hd
    subst hT
    simp only [colT] at h ⊢
    walk_at "rdx"
    refine ⟨L, r, p, rfl, h1, h3, hr, hp, ?_⟩
    rw [find_col h1 h3 hp] at h
    exact h
  · rw [List.nil_append, fm_map (h := fun p => D.int (rk L r p)) fun p hp => by
      show some (D.int (rk L r _)) = _
      rw [find_col h1 h3 hp]]
    refine hN1 _ _ ?_
    clear hN1 N1
    walk_at "rdx"
    rw [List.length_map]
    have e1 : (List.replicate (((colP L).length : Nat) : Int).toNat [D.int 1]).flatten = List.replicate (colP L).length (.int 1) := by
      rw [Int.toNat_natCast]; simp [List.flatten_replicate_singleton]
    have e2 : (List.replicate (((colP L).length : Nat) : Int).toNat [D.int 2]).flatten = List.replicate (colP L).length (.int 2) := by
      rw [Int.toNat_natCast]; simp [List.flatten_replicate_singleton]
    rw [e1, e2]
    exact ⟨by decide, ⟨by omega, by omega, by decide⟩, by decide, ⟨by omega, by omega, by decide⟩, by decide, by decide, by decide, q'⟩
/-! ### by_length -/
def spLength : SpD := fun ds S Q => ∃ L : Nat, ds = [.int (L : Nat)] ∧ 1 ≤ L ∧ L ≤ 3 ∧ Q (rankedD L (List.replicate L 0)) S
theorem length_len (ds : List D) (S : HD) (Q : QD) (h : spLength ds S Q) : ds.length = 1 := by
  obtain ⟨_, rfl, _⟩ := h
  rfl
theorem zeros (L : Nat) : (List.replicate (L : Int).toNat [D.int 0]).flatten = (List.replicate L (0 : Int)).map D.int := by
  rw [Int.toNat_natCast]; simp [List.flatten_replicate_singleton]
theorem zeros_ok (L : Nat) : ROk L (List.replicate L 0) := ⟨List.length_replicate, fun x hx => by rw [List.eq_of_mem_replicate hx]; exact ⟨by decide, by decide⟩⟩
theorem length_ok (ds : List D) (S : HD) (Q : QD) (h : spLength ds S Q) : rd_by_length spRanks (ends Q) (pad 1 ds) S := by
  obtain ⟨L, rfl, h1, h3, q⟩ := h
  have q' := fin.here q
  clear q
  unfold rd_by_length
  walk_at "rdx"
  rw [zeros]
  exact ⟨by decide, ⟨by omega, by omega, by decide⟩, L, _, rfl, h1, h3, zeros_ok L, q'⟩
end K37
end

section
/-! P37c: the law's ranks. -/
namespace K37
open PySem PySem.Spec PyProof.Rows PD
local macro_rules | `(tactic| walk_at "rdx") => `(tactic| simp only [PD.pad, PD.gt_z, PD.gt_s, PD.st_z, PD.st_s, PD.sNextD, PD.sSeqD, PD.sBreakD, PD.sContD, PD.sDropD, PD.sRetD, PD.sRetND, PD.sIfD, PD.sNeverD, PD.sAsgD, PD.sPar2, PD.sPar3, PD.gNameD, PD.gNilD, PD.gConsD, PD.gTupD, PD.gSubD, PD.tNilD, PD.tConsD, PD.tTupD, PD.tLstV, PD.tLstR, PD.tBin, PD.tTst, PD.tAndD, PD.tOrD, PD.tNotD, PD.tIfD, PD.tAndV, PD.tOrV, PD.tNotV, PD.tUnD, PD.rNeg, PD.tCallD, PD.tSlot, PD.tCD, PD.tChainD, PD.rIsN, PD.rNotN, PD.rIsiD, PD.isi_non, PD.isi_bl, PD.isi_int, PD.isi_str, PD.isi_tup, PD.isi_lst, PD.isi_dic, PD.Ty.name, PD.rCmpI, PD.fLt, PD.fLe, PD.fGt, PD.fGe, PD.rAddD, PD.rSubD, PD.rFdivD, PD.rModD, PD.rPowD, PD.rMulD, PD.rAddR, PD.rMulR, PD.asSeq, PD.asLst, PD.rLenD, PD.rTupleD, PD.rListV, PD.rListR, PD.rIntD, PD.rBoolD, PD.rAbsD, PD.rIxD, PD.oNone, PD.oSome, PD.tSlD, PD.rSlD, PD.tRevTD, PD.rEqD, PD.rNeD, PD.nrm_non, PD.nrm_bl, PD.nrm_int, PD.nrm_str, PD.nrm_tup, PD.nrm_lst, PD.nrm_dic, PD.nrm_ref, PD.iSeqD, PD.iRng1D, PD.iRng2D, PD.sForD, PD.tLcV, PD.tLcR, PD.tYesD, PD.wipeD, PD.tMethL, PD.rAppD, PD.isRefL, PD.tDicV, PD.keyOf, PD.asDic, PD.srcD, PD.iAnyD, PD.iZipD, PD.iEnumD, PD.tDcV, PD.tDicR, PD.gSubX, PD.rSetX, PD.rIxX, PD.rInD, PD.rInX, PD.rInY, PD.rInZ, PD.rSumD, PD.tRevLD, PD.tRevX, PD.rSixD, PD.rJoinD, PD.tMethS, PD.rLixD, PD.rPopD, PD.rExtD, PD.tMethA, PD.rSetD, PD.rReprD, PD.eqk_int, PD.eqd_int, PD.eqk_str, PD.eqd_str, PD.eqk_lst0, PD.eqd_lst0, PD.eqk_tup0, PD.eqd_tup0, PD.tdOf, PD.rInW, PD.rIxW, PD.rSetW, PD.gSubW, PD.rLenW, PD.rGetW, PD.rGetAt, PD.tMethW, PD.rSetdW, PD.tDispR, PD.tPairsD, PD.putAll, PD.tDisp1T, PD.gSeqD, PD.rListW, PD.tLenSetD, PD.tFldD, PD.fldD, PD.tMethC, PD.methD, PD.tMakeD, PD.sFldD, PD.tMethB, PD.rLjD, PD.tCallX, PD.sRetX, PD.sRaiseD, PD.sTryD, PD.hdlD, PD.noX, PD.rExtX, PD.rTupleX, PD.gUnpD, PD.tDictZ, PD.rInP, PD.rLixP, PD.tCallE, PD.tNilL, PD.tConsL, PD.tLamL, PD.tCallL, PD.tDispV, Option.map_some, Option.bind_some, PD.spFn, PD.spDraw, reduceIte, true_and, and_true, or_false, false_or, Bool.not_true, Bool.not_false, Bool.false_eq_true, List.length_cons, List.length_nil, List.set_cons_zero, List.set_cons_succ, PD.HD.set_same, PD.HD.tick_hp, PD.HD.tick_c, PD.HD.tick_dk, PD.HD.set_c, PD.HD.set_dk])
local macro_rules | `(tactic| simp_all only [$xs,*]) => `(tactic| simp only [PD.pad, PD.gt_z, PD.gt_s, PD.st_z, PD.st_s, PD.sNextD, PD.sSeqD, PD.sBreakD, PD.sContD, PD.sDropD, PD.sRetD, PD.sRetND, PD.sIfD, PD.sNeverD, PD.sAsgD, PD.sPar2, PD.sPar3, PD.gNameD, PD.gNilD, PD.gConsD, PD.gTupD, PD.gSubD, PD.tNilD, PD.tConsD, PD.tTupD, PD.tLstV, PD.tLstR, PD.tBin, PD.tTst, PD.tAndD, PD.tOrD, PD.tNotD, PD.tIfD, PD.tAndV, PD.tOrV, PD.tNotV, PD.tUnD, PD.rNeg, PD.tCallD, PD.tSlot, PD.tCD, PD.tChainD, PD.rIsN, PD.rNotN, PD.rIsiD, PD.isi_non, PD.isi_bl, PD.isi_int, PD.isi_str, PD.isi_tup, PD.isi_lst, PD.isi_dic, PD.Ty.name, PD.rCmpI, PD.fLt, PD.fLe, PD.fGt, PD.fGe, PD.rAddD, PD.rSubD, PD.rFdivD, PD.rModD, PD.rPowD, PD.rMulD, PD.rAddR, PD.rMulR, PD.asSeq, PD.asLst, PD.rLenD, PD.rTupleD, PD.rListV, PD.rListR, PD.rIntD, PD.rBoolD, PD.rAbsD, PD.rIxD, PD.oNone, PD.oSome, PD.tSlD, PD.rSlD, PD.tRevTD, PD.rEqD, PD.rNeD, PD.nrm_non, PD.nrm_bl, PD.nrm_int, PD.nrm_str, PD.nrm_tup, PD.nrm_lst, PD.nrm_dic, PD.nrm_ref, PD.iSeqD, PD.iRng1D, PD.iRng2D, PD.sForD, PD.tLcV, PD.tLcR, PD.tYesD, PD.wipeD, PD.tMethL, PD.rAppD, PD.isRefL, PD.tDicV, PD.keyOf, PD.asDic, PD.srcD, PD.iAnyD, PD.iZipD, PD.iEnumD, PD.tDcV, PD.tDicR, PD.gSubX, PD.rSetX, PD.rIxX, PD.rInD, PD.rInX, PD.rInY, PD.rInZ, PD.rSumD, PD.tRevLD, PD.tRevX, PD.rSixD, PD.rJoinD, PD.tMethS, PD.rLixD, PD.rPopD, PD.rExtD, PD.tMethA, PD.rSetD, PD.rReprD, PD.eqk_int, PD.eqd_int, PD.eqk_str, PD.eqd_str, PD.eqk_lst0, PD.eqd_lst0, PD.eqk_tup0, PD.eqd_tup0, PD.tdOf, PD.rInW, PD.rIxW, PD.rSetW, PD.gSubW, PD.rLenW, PD.rGetW, PD.rGetAt, PD.tMethW, PD.rSetdW, PD.tDispR, PD.tPairsD, PD.putAll, PD.tDisp1T, PD.gSeqD, PD.rListW, PD.tLenSetD, PD.tFldD, PD.fldD, PD.tMethC, PD.methD, PD.tMakeD, PD.sFldD, PD.tMethB, PD.rLjD, PD.tCallX, PD.sRetX, PD.sRaiseD, PD.sTryD, PD.hdlD, PD.noX, PD.rExtX, PD.rTupleX, PD.gUnpD, PD.tDictZ, PD.rInP, PD.rLixP, PD.tCallE, PD.tNilL, PD.tConsL, PD.tLamL, PD.tCallL, PD.tDispV, Option.map_some, Option.bind_some, PD.spFn, PD.spDraw, reduceIte, true_and, and_true, or_false, false_or, Bool.not_true, Bool.not_false, Bool.false_eq_true, List.length_cons, List.length_nil, List.set_cons_zero, List.set_cons_succ, PD.HD.set_same, PD.HD.tick_hp, PD.HD.tick_c, PD.HD.tick_dk, PD.HD.set_c, PD.HD.set_dk, $xs,*])
theorem _root_.PD.HLe.wr {S S' : HD} {p : Addr} {o : OD} (h : HLe S S') (n : S.hp p = none) : HLe S (S'.set p o) :=
  ⟨fun a u e => (HD.set_ne fun z => by rw [z, n] at e; cases e).trans (h.hp a u e), h.c, h.dk⟩
theorem six_at {a : Nat} (ha : a < 3) : Txt.index0 (Str.ofString "abc") ⟨#[97 + a]⟩ = some a := by
  obtain rfl | rfl | rfl : a = 0 ∨ a = 1 ∨ a = 2 := by omega
  all_goals decide +kernel
theorem at_map {r : List Int} {a : Nat} (h : a < r.length) : L2.atI (r.map D.int) ((a : Nat) : Int) = some (.int (r.getD a 0)) := by
  rw [atI_get (xs := r.map D.int) (by rw [List.length_map]; exact h)]
  simp [List.getD_eq_getElem?_getD, List.getElem?_eq_getElem h]
def spRanked : SpD := fun ds S Q => ∃ (L : Nat) (d : D) (r : List Int), ds = [.int (L : Nat), d] ∧ (d = .tup (r.map D.int) ∨ d = .lst (r.map D.int)) ∧ 1 ≤ L ∧ L ≤ 3 ∧ ROk L r ∧ Q (rankedD L r) S
theorem ranked_len (ds : List D) (S : HD) (Q : QD) (h : spRanked ds S Q) : ds.length = 2 := by
  obtain ⟨_, _, _, rfl, _⟩ := h
  rfl
theorem ranked_ok (ds : List D) (S : HD) (Q : QD) (h : spRanked ds S Q) : rd__law_ranked spColsL (ends Q) (pad 7 ds) S := by
  obtain ⟨L, d, r, rfl, hd, h1, h3, hr, q⟩ := h
  have q' := fin.here q
  have hsl : (sizeLine : Nat) = 16777216 := rfl
  obtain ⟨c15, c3⟩ := colP_len h1 h3
  unfold rd__law_ranked
  refine seq_step fun N1 hN1 => ?_
  walk_at "rdx"
  refine ⟨by decide, fun p hp => hN1 _ _ ?_⟩
  clear hN1 N1
  refine seq_step fun N1 hN1 => ?_
  generalize hB : (sIfD (tOrD (tTst (tBin rEqD (tSlot 3) _)) _) _ _ : TSD) = B1
  generalize hg : (gUnpD 2 _ : TGD) = g1
  walk_at "rdx"
  refine ⟨L, rfl, h1, h3, ?_⟩
  rw [cols_P h1 h3]
  dsimp only
  refine fun hz => loopD_go (fun i σ S' => (∃ v3 v4 v5, σ = [some (.int (L : Nat)), some d, some (.ref p), v3, v4, v5, none]) ∧ S'.hp p = some (.lst (((colP L).take i).map fun p => .int (rk L r p))) ∧ HLe S S') ⟨⟨_, _, _, rfl⟩, HD.set_same, HLe.set hp⟩
    (fun i x σ S' N hi ⟨⟨v3, v4, v5, e1⟩, gp, up⟩ k => ⟨trivial, ?_⟩) (fun σ S' ⟨⟨v3, v4, v5, e1⟩, gp, up⟩ => ⟨trivial, ?_⟩)
  · subst e1 hg
    rw [List.getElem?_map] at hi
    obtain ⟨c, hc, rfl⟩ := Option.map_eq_some_iff.mp hi
    obtain ⟨a1, a2, a3⟩ := colP_mem h1 h3 (List.mem_of_getElem? hc)
    simp only [colT]
    have es : signsD (colZ L c) = [.str ⟨#[sg L c.1]⟩, .str ⟨#[sg L c.2]⟩] := rfl
    walk_at "rdx"
    rw [es]
    refine ⟨rfl, ?_⟩
    dsimp only
    refine ⟨rfl, ?_⟩
    subst hB
    have dot : Str.ofString "." = ⟨#[46]⟩ := by decide +kernel
    have hdA : decide ((⟨#[sg L c.1]⟩ : Str) = Str.ofString ".") = decide (c.1 = L) := by
      rw [dot, Bool.eq_iff_iff, decide_eq_true_eq, decide_eq_true_eq, ← sg_dot h3 a1]
      exact ⟨fun e => by injection e with e; simpa using e, fun e => by rw [e]⟩
    have hdB : decide ((⟨#[sg L c.2]⟩ : Str) = Str.ofString ".") = decide (c.2 = L) := by
      rw [dot, Bool.eq_iff_iff, decide_eq_true_eq, decide_eq_true_eq, ← sg_dot h3 a2]
      exact ⟨fun e => by injection e with e; simpa using e, fun e => by rw [e]⟩
    have add : ∀ v : Int, v = rk L r c → ∀ v5, N [some (.int (L : Nat)), some d, some (.ref p), some (.str ⟨#[sg L c.1]⟩), some (.str ⟨#[sg L c.2]⟩), v5, none] (S'.set p (.lst (((colP L).take i).map (fun p => D.int (rk L r p)) ++ [.int v]))) := fun v hv v5 =>
      k _ _ ⟨⟨_, _, _, rfl⟩, by rw [HD.set_same, List.take_add_one, hc, hv]; simp, HLe.wr up hp⟩
    have hi15 : ((colP L).take i).length ≤ 15 := by rw [List.length_take]; omega
    walk_at "rdx"
    rw [hdA, hdB]
    by_cases e1 : c.1 = L
    · simp only [e1, decide_true, if_true]
      refine ⟨⟨_, gp⟩, ?_⟩
      simp only [gp]
      have := add 1 (by simp [rk, e1]) v5
      rw [e1] at this
      exact ⟨by rw [List.length_map]; omega, this⟩
    · by_cases e2 : c.2 = L
      · simp only [e1, e2, decide_true, decide_false, if_true, if_false, Bool.false_eq_true]
        refine ⟨⟨_, gp⟩, ?_⟩
        simp only [gp]
        have := add 2 (by simp [rk, e1, e2]) v5
        rw [e2] at this
        exact ⟨by rw [List.length_map]; omega, this⟩
      · simp only [e1, e2, decide_false, if_false, Bool.false_eq_true]
        have l1 : c.1 < L := by omega
        have l2 : c.2 < L := by omega
        have g1 : sg L c.1 = 97 + c.1 := by simp [sg, l1]
        have g2 : sg L c.2 = 97 + c.2 := by simp [sg, l2]
        rw [g1, g2] at add
        simp only [g1, g2, six_at (show c.1 < 3 by omega), six_at (show c.2 < 3 by omega)]
        have b1 := at_map (r := r) (a := c.1) (by rw [hr.1]; exact l1)
        have b2 := at_map (r := r) (a := c.2) (by rw [hr.1]; exact l2)
        have fin3 : (∃ xs, S'.hp p = some (OD.lst xs)) ∧ (if decide (r.getD c.1 0 - r.getD c.2 0 = 0) = true then
            (((((colP L).take i).map fun p => D.int (rk L r p)).length < 16000000 ∧ N [some (.int (L : Nat)), some d, some (.ref p), some (.str ⟨#[97 + c.1]⟩), some (.str ⟨#[97 + c.2]⟩), some (.int (r.getD c.1 0 - r.getD c.2 0)), none] (S'.set p (.lst (((colP L).take i).map (fun p => D.int (rk L r p)) ++ [.int 0])))))
          else if decide (r.getD c.1 0 - r.getD c.2 0 < 0) = true then
            (((((colP L).take i).map fun p => D.int (rk L r p)).length < 16000000 ∧ N [some (.int (L : Nat)), some d, some (.ref p), some (.str ⟨#[97 + c.1]⟩), some (.str ⟨#[97 + c.2]⟩), some (.int (r.getD c.1 0 - r.getD c.2 0)), none] (S'.set p (.lst (((colP L).take i).map (fun p => D.int (rk L r p)) ++ [.int 1])))))
          else (((((colP L).take i).map fun p => D.int (rk L r p)).length < 16000000 ∧ N [some (.int (L : Nat)), some d, some (.ref p), some (.str ⟨#[97 + c.1]⟩), some (.str ⟨#[97 + c.2]⟩), some (.int (r.getD c.1 0 - r.getD c.2 0)), none] (S'.set p (.lst (((colP L).take i).map (fun p => D.int (rk L r p)) ++ [.int 2])))))) := by
          refine ⟨⟨_, gp⟩, ?_⟩
          have lt : (((colP L).take i).map fun p => D.int (rk L r p)).length < 16000000 := by rw [List.length_map]; omega
          by_cases e3 : r.getD c.1 0 - r.getD c.2 0 = 0
          · simp only [e3, decide_true, if_true]
            exact ⟨lt, add 0 (by simp only [rk, e1, e2, e3, if_true, if_false]) _⟩
          · by_cases e4 : r.getD c.1 0 - r.getD c.2 0 < 0
            · simp only [e3, e4, decide_true, decide_false, if_true, if_false, Bool.false_eq_true]
              exact ⟨lt, add 1 (by simp only [rk, e1, e2, e3, e4, if_true, if_false]) _⟩
            · simp only [e3, e4, decide_false, if_false, Bool.false_eq_true]
              exact ⟨lt, add 2 (by simp only [rk, e1, e2, e3, e4, if_false]) _⟩
        rcases hd with rfl | rfl
        · dsimp only
          simp only [b1, b2, gp] at fin3 ⊢
          exact ⟨⟨_, rfl⟩, ⟨_, rfl⟩, fin3⟩
        · dsimp only
          simp only [b1, b2, gp] at fin3 ⊢
          exact ⟨⟨_, rfl⟩, ⟨_, rfl⟩, fin3⟩
  · subst e1
    clear hB hg
    refine hN1 _ _ ?_
    clear hN1 N1
    rw [List.length_map, List.take_length] at gp
    refine seq_step fun N1 hN1 => ?_
    walk_at "rdx"
    simp only [gp]
    refine hN1 _ _ ?_
    clear hN1 N1
    walk_at "rdx"
    simp only [gp]
    rw [List.length_map]
    have e1 : (List.replicate (((colP L).length : Nat) : Int).toNat [D.int 1]).flatten = List.replicate (colP L).length (.int 1) := by
      rw [Int.toNat_natCast]; simp [List.flatten_replicate_singleton]
    have e2 : (List.replicate (((colP L).length : Nat) : Int).toNat [D.int 2]).flatten = List.replicate (colP L).length (.int 2) := by
      rw [Int.toNat_natCast]; simp [List.flatten_replicate_singleton]
    rw [e1, e2]
    exact ⟨by decide, ⟨by omega, by omega, by decide⟩, by decide, ⟨by omega, by omega, by decide⟩, by decide, by decide, by decide, fin.le up q⟩
end K37
end

section
/-! P37d: comparisons, drawn and turned. -/
namespace K37
open PySem PySem.Spec PyProof.Rows PD
local macro_rules | `(tactic| walk_at "rdx") => `(tactic| simp only [PD.pad, PD.gt_z, PD.gt_s, PD.st_z, PD.st_s, PD.sNextD, PD.sSeqD, PD.sBreakD, PD.sContD, PD.sDropD, PD.sRetD, PD.sRetND, PD.sIfD, PD.sNeverD, PD.sAsgD, PD.sPar2, PD.sPar3, PD.gNameD, PD.gNilD, PD.gConsD, PD.gTupD, PD.gSubD, PD.tNilD, PD.tConsD, PD.tTupD, PD.tLstV, PD.tLstR, PD.tBin, PD.tTst, PD.tAndD, PD.tOrD, PD.tNotD, PD.tIfD, PD.tAndV, PD.tOrV, PD.tNotV, PD.tUnD, PD.rNeg, PD.tCallD, PD.tSlot, PD.tCD, PD.tChainD, PD.rIsN, PD.rNotN, PD.rIsiD, PD.isi_non, PD.isi_bl, PD.isi_int, PD.isi_str, PD.isi_tup, PD.isi_lst, PD.isi_dic, PD.Ty.name, PD.rCmpI, PD.fLt, PD.fLe, PD.fGt, PD.fGe, PD.rAddD, PD.rSubD, PD.rFdivD, PD.rModD, PD.rPowD, PD.rMulD, PD.rAddR, PD.rMulR, PD.asSeq, PD.asLst, PD.rLenD, PD.rTupleD, PD.rListV, PD.rListR, PD.rIntD, PD.rBoolD, PD.rAbsD, PD.rIxD, PD.oNone, PD.oSome, PD.tSlD, PD.rSlD, PD.tRevTD, PD.rEqD, PD.rNeD, PD.nrm_non, PD.nrm_bl, PD.nrm_int, PD.nrm_str, PD.nrm_tup, PD.nrm_lst, PD.nrm_dic, PD.nrm_ref, PD.iSeqD, PD.iRng1D, PD.iRng2D, PD.sForD, PD.tLcV, PD.tLcR, PD.tYesD, PD.wipeD, PD.tMethL, PD.rAppD, PD.isRefL, PD.tDicV, PD.keyOf, PD.asDic, PD.srcD, PD.iAnyD, PD.iZipD, PD.iEnumD, PD.tDcV, PD.tDicR, PD.gSubX, PD.rSetX, PD.rIxX, PD.rInD, PD.rInX, PD.rInY, PD.rInZ, PD.rSumD, PD.tRevLD, PD.tRevX, PD.rSixD, PD.rJoinD, PD.tMethS, PD.rLixD, PD.rPopD, PD.rExtD, PD.tMethA, PD.rSetD, PD.rReprD, PD.eqk_int, PD.eqd_int, PD.eqk_str, PD.eqd_str, PD.eqk_lst0, PD.eqd_lst0, PD.eqk_tup0, PD.eqd_tup0, PD.tdOf, PD.rInW, PD.rIxW, PD.rSetW, PD.gSubW, PD.rLenW, PD.rGetW, PD.rGetAt, PD.tMethW, PD.rSetdW, PD.tDispR, PD.tPairsD, PD.putAll, PD.tDisp1T, PD.gSeqD, PD.rListW, PD.tLenSetD, PD.tFldD, PD.fldD, PD.tMethC, PD.methD, PD.tMakeD, PD.sFldD, PD.tMethB, PD.rLjD, PD.tCallX, PD.sRetX, PD.sRaiseD, PD.sTryD, PD.hdlD, PD.noX, PD.rExtX, PD.rTupleX, PD.gUnpD, PD.tDictZ, PD.rInP, PD.rLixP, PD.tCallE, PD.tNilL, PD.tConsL, PD.tLamL, PD.tCallL, PD.tDispV, Option.map_some, Option.bind_some, PD.spFn, PD.spDraw, reduceIte, true_and, and_true, or_false, false_or, Bool.not_true, Bool.not_false, Bool.false_eq_true, List.length_cons, List.length_nil, List.set_cons_zero, List.set_cons_succ, PD.HD.set_same, PD.HD.tick_hp, PD.HD.tick_c, PD.HD.tick_dk, PD.HD.set_c, PD.HD.set_dk])
local macro_rules | `(tactic| simp_all only [$xs,*]) => `(tactic| simp only [PD.pad, PD.gt_z, PD.gt_s, PD.st_z, PD.st_s, PD.sNextD, PD.sSeqD, PD.sBreakD, PD.sContD, PD.sDropD, PD.sRetD, PD.sRetND, PD.sIfD, PD.sNeverD, PD.sAsgD, PD.sPar2, PD.sPar3, PD.gNameD, PD.gNilD, PD.gConsD, PD.gTupD, PD.gSubD, PD.tNilD, PD.tConsD, PD.tTupD, PD.tLstV, PD.tLstR, PD.tBin, PD.tTst, PD.tAndD, PD.tOrD, PD.tNotD, PD.tIfD, PD.tAndV, PD.tOrV, PD.tNotV, PD.tUnD, PD.rNeg, PD.tCallD, PD.tSlot, PD.tCD, PD.tChainD, PD.rIsN, PD.rNotN, PD.rIsiD, PD.isi_non, PD.isi_bl, PD.isi_int, PD.isi_str, PD.isi_tup, PD.isi_lst, PD.isi_dic, PD.Ty.name, PD.rCmpI, PD.fLt, PD.fLe, PD.fGt, PD.fGe, PD.rAddD, PD.rSubD, PD.rFdivD, PD.rModD, PD.rPowD, PD.rMulD, PD.rAddR, PD.rMulR, PD.asSeq, PD.asLst, PD.rLenD, PD.rTupleD, PD.rListV, PD.rListR, PD.rIntD, PD.rBoolD, PD.rAbsD, PD.rIxD, PD.oNone, PD.oSome, PD.tSlD, PD.rSlD, PD.tRevTD, PD.rEqD, PD.rNeD, PD.nrm_non, PD.nrm_bl, PD.nrm_int, PD.nrm_str, PD.nrm_tup, PD.nrm_lst, PD.nrm_dic, PD.nrm_ref, PD.iSeqD, PD.iRng1D, PD.iRng2D, PD.sForD, PD.tLcV, PD.tLcR, PD.tYesD, PD.wipeD, PD.tMethL, PD.rAppD, PD.isRefL, PD.tDicV, PD.keyOf, PD.asDic, PD.srcD, PD.iAnyD, PD.iZipD, PD.iEnumD, PD.tDcV, PD.tDicR, PD.gSubX, PD.rSetX, PD.rIxX, PD.rInD, PD.rInX, PD.rInY, PD.rInZ, PD.rSumD, PD.tRevLD, PD.tRevX, PD.rSixD, PD.rJoinD, PD.tMethS, PD.rLixD, PD.rPopD, PD.rExtD, PD.tMethA, PD.rSetD, PD.rReprD, PD.eqk_int, PD.eqd_int, PD.eqk_str, PD.eqd_str, PD.eqk_lst0, PD.eqd_lst0, PD.eqk_tup0, PD.eqd_tup0, PD.tdOf, PD.rInW, PD.rIxW, PD.rSetW, PD.gSubW, PD.rLenW, PD.rGetW, PD.rGetAt, PD.tMethW, PD.rSetdW, PD.tDispR, PD.tPairsD, PD.putAll, PD.tDisp1T, PD.gSeqD, PD.rListW, PD.tLenSetD, PD.tFldD, PD.fldD, PD.tMethC, PD.methD, PD.tMakeD, PD.sFldD, PD.tMethB, PD.rLjD, PD.tCallX, PD.sRetX, PD.sRaiseD, PD.sTryD, PD.hdlD, PD.noX, PD.rExtX, PD.rTupleX, PD.gUnpD, PD.tDictZ, PD.rInP, PD.rLixP, PD.tCallE, PD.tNilL, PD.tConsL, PD.tLamL, PD.tCallL, PD.tDispV, Option.map_some, Option.bind_some, PD.spFn, PD.spDraw, reduceIte, true_and, and_true, or_false, false_or, Bool.not_true, Bool.not_false, Bool.false_eq_true, List.length_cons, List.length_nil, List.set_cons_zero, List.set_cons_succ, PD.HD.set_same, PD.HD.tick_hp, PD.HD.tick_c, PD.HD.tick_dk, PD.HD.set_c, PD.HD.set_dk, $xs,*])
theorem cols_le {L : Nat} (h1 : 1 ≤ L) (h3 : L ≤ 3) : (cols L).length = (L + 1) * (L + 1) - 1 := by
  obtain rfl | rfl | rfl : L = 1 ∨ L = 2 ∨ L = 3 := by omega
  all_goals decide +kernel
theorem atI_map {α : Type} {xs : List α} {f : α → D} {s : Nat} {x : α} (h : xs[s]? = some x) : L2.atI (xs.map f) (s : Int) = some (f x) := L2.atI_nat (by rw [List.getElem?_map, h]; rfl)
/-- a comparison -/
structure Cmp where
  L : Nat
  rows : List (List Nat)
  vs : List Int
structure Cmp.Ok (M : Cmp) : Prop where
  l1 : 1 ≤ M.L
  l3 : M.L ≤ 3
  n1 : 1 ≤ M.rows.length
  n61 : M.rows.length ≤ 61
  wd : ∀ r ∈ M.rows, r.length = (cols M.L).length
  lt : ∀ r ∈ M.rows, ∀ t ∈ r, t < M.rows.length
  vl : M.vs.length = M.rows.length
  vb : ∀ v ∈ M.vs, -1 ≤ v ∧ v ≤ 1
def encR (r : List Nat) : D := .tup (r.map fun t => .int (t : Nat))
def Cmp.rowsD (M : Cmp) : D := .tup (M.rows.map encR)
def Cmp.vsD (M : Cmp) : D := .tup (M.vs.map D.int)
def Cmp.enc (M : Cmp) : D := .tup [.int (M.L : Nat), M.rowsD, M.vsD]
def spComp : SpD := fun ds S Q => ∃ (L n : Nat), ds = [.deck, .int (L : Nat), .int (n : Nat)] ∧ 1 ≤ L ∧ L ≤ 3 ∧ 1 ≤ n ∧ n ≤ 61 ∧ S.c + 1000 ≤ 1000000000000 ∧ ∀ M : Cmp, M.Ok → M.L = L → M.rows.length = n → Q M.enc (S.tick 1000)
theorem comp_len (ds : List D) (S : HD) (Q : QD) (h : spComp ds S Q) : ds.length = 3 := by
  obtain ⟨_, _, rfl, _⟩ := h
  rfl
theorem comp_ok (ds : List D) (S : HD) (Q : QD) (h : spComp ds S Q) : rd__law_comp spColsL spDraw spOne (ends Q) (pad 6 ds) S := by
  obtain ⟨L, n, rfl, l1, l3, n1, n61, hc, q⟩ := h
  have hsl : (sizeLine : Nat) = 16777216 := rfl
  have cl : (cols L).length ≤ 15 := by
    rw [cols_le l1 l3]
    obtain rfl | rfl | rfl : L = 1 ∨ L = 2 ∨ L = 3 := by omega
    all_goals decide
  unfold rd__law_comp
  refine seq_step fun N1 hN1 => ?_
  generalize hB : (tCallD rTupleD (tConsD (tLcV (iAnyD _) _ _ _ _) _) : TED) = B1
  walk_at "rdx"
  rw [Int.toNat_natCast]
  refine ⟨by omega, by rw [rngD_len]; omega, ?_⟩
  refine lcD_go (fun i acc S' => ∃ rs : List (List Nat), acc = rs.map encR ∧ rs.length = i ∧ (∀ r ∈ rs, r.length = (cols L).length ∧ ∀ t ∈ r, t < n) ∧ Up (15 * i) S S') ⟨[], rfl, rfl, fun _ h => (by cases h), Up.refl S⟩ (fun i d acc S' N hi ⟨rs, e1, e2, e3, e4⟩ kk => ⟨trivial, ?_⟩) fun acc S' ⟨rs, e1, e2, e3, e4⟩ => ⟨trivial, ?_⟩
  · obtain ⟨hi1, rfl⟩ := rngD_get hi
    walk_at "rdx"
    subst hB
    generalize hD : (tCallD spDraw _ : TED) = D1
    walk_at "rdx"
    refine ⟨L, rfl, l1, l3, ?_⟩
    walk_at "rdx"
    refine fun hz => ⟨hz, lcD_go (fun j acc2 S2 => ∃ ts : List Nat, acc2 = (ts.map fun t => D.int (t : Nat)) ∧ ts.length = j ∧ (∀ t ∈ ts, t < n) ∧ Up (15 * i + j) S S2) ⟨[], rfl, rfl, fun _ h => (by cases h), e4⟩ (fun j d2 acc2 S2 N2 hj ⟨ts, g1, g2, g3, g4⟩ k2 => ⟨trivial, ?_⟩) fun acc2 S2 ⟨ts, g1, g2, g3, g4⟩ => ⟨trivial, ?_⟩⟩
    · have hj1 := (List.getElem?_eq_some_iff.mp hj).1
      subst hD
      walk_at "rdx"
      have := g4.c
      refine ⟨⟨by omega, by omega, by omega⟩, fun r r0 r1 => k2 _ _ ⟨ts ++ [r.toNat], ?_, by rw [List.length_append, g2]; rfl, fun t ht => ?_, g4.tick (k := 1)⟩⟩
      · rw [g1, List.map_append]
        congr 1
        simp [Int.toNat_of_nonneg r0]
      · rcases List.mem_append.mp ht with h | h
        · exact g3 t h
        · rw [List.mem_singleton.mp h]; omega
    · subst g1
      refine kk _ _ ⟨rs ++ [ts], ?_, by rw [List.length_append, e2]; rfl, fun r hr => ?_, g4.mono (by omega)⟩
      · rw [e1, List.map_append]
        rfl
      · rcases List.mem_append.mp hr with h | h
        · exact e3 r h
        · rw [List.mem_singleton.mp h]; exact ⟨g2, g3⟩
  · subst e1
    rw [rngD_len] at e2 e4
    refine hN1 _ _ ?_
    clear hN1 N1
    generalize hD : (tBin rSubD (tCallD spDraw _) _ : TED) = D1
    walk_at "rdx"
    have hu := e4.c
    refine ⟨by decide, _, _, rfl, rfl, by simp, by simp, by omega, fun o ho => ⟨by decide, ⟨by omega, by omega⟩, by rw [rngD_len]; omega, ?_⟩⟩
    obtain ⟨v0, rfl, hv0⟩ : ∃ v0 : Int, o = .int v0 ∧ -1 ≤ v0 ∧ v0 ≤ 1 := by
      rcases List.mem_cons.mp ho with e | ho
      · exact ⟨0, e, by decide⟩
      rcases List.mem_cons.mp ho with e | ho
      · exact ⟨0, e, by decide⟩
      · exact ⟨1, List.mem_singleton.mp ho, by decide⟩
    refine lcD_go (fun i acc S2 => ∃ vs : List Int, acc = vs.map D.int ∧ vs.length = i ∧ (∀ v ∈ vs, -1 ≤ v ∧ v ≤ 1) ∧ Up (15 * n + 1 + i) S S2) ⟨[], rfl, rfl, fun _ h => (by cases h), (by rw [e2] at *; exact e4.tick (k := 1))⟩ (fun i d acc S2 N hi ⟨vs, g1, g2, g3, g4⟩ kk => ⟨trivial, ?_⟩) fun acc S2 ⟨vs, g1, g2, g3, g4⟩ => ⟨trivial, ?_⟩
    · obtain ⟨hi1, rfl⟩ := rngD_get hi
      have hn : ((n : Int) - 1).toNat = n - 1 := by omega
      rw [hn] at hi1
      have := g4.c
      subst hD
      walk_at "rdx"
      refine ⟨⟨by decide, by decide, by omega⟩, fun r r0 r1 => kk _ _ ⟨vs ++ [r - 1], by rw [g1, List.map_append]; rfl, by rw [List.length_append, g2]; rfl, fun v hv => ?_, g4.tick (k := 1)⟩⟩
      rcases List.mem_append.mp hv with h | h
      · exact g3 v h
      · rw [List.mem_singleton.mp h]; omega
    · subst g1
      rw [rngD_len] at g2 g4
      have hn : ((n : Int) - 1).toNat = n - 1 := by omega
      rw [hn] at g2 g4
      refine ⟨by rw [List.length_map]; omega, by decide, (g4.mono (by omega)).fin (q ⟨L, rs, v0 :: vs⟩ ⟨l1, l3, by show 1 ≤ rs.length; omega, by show rs.length ≤ 61; omega, fun r hr => (e3 r hr).1, fun r hr t ht => by show t < rs.length; rw [e2]; exact (e3 r hr).2 t ht, by show (v0 :: vs).length = rs.length; rw [List.length_cons]; omega, fun v hv => ?_⟩ rfl e2)⟩
      rcases List.mem_cons.mp hv with h | h
      · rw [h]; exact hv0
      · exact g3 v h
/-! ### turned -/
def Cmp.turn (M : Cmp) : Cmp := ⟨M.L, M.rows, M.vs.map fun v => 0 - v⟩
theorem Cmp.Ok.turn {M : Cmp} (ok : M.Ok) : M.turn.Ok := ⟨ok.l1, ok.l3, ok.n1, ok.n61, ok.wd, ok.lt, by show (M.vs.map _).length = _; rw [List.length_map]; exact ok.vl, fun v hv => by
  obtain ⟨u, hu, rfl⟩ := List.mem_map.mp hv
  have := ok.vb u hu
  omega⟩
def spTurned : SpD := fun ds S Q => ∃ M : Cmp, ds = [M.enc] ∧ M.Ok ∧ Q M.turn.enc S
theorem turned_len (ds : List D) (S : HD) (Q : QD) (h : spTurned ds S Q) : ds.length = 1 := by
  obtain ⟨_, rfl, _⟩ := h
  rfl
theorem turned_ok (ds : List D) (S : HD) (Q : QD) (h : spTurned ds S Q) : rd_turned (ends Q) (pad 2 ds) S := by
  obtain ⟨M, rfl, ok, q⟩ := h
  have q' := fin.here q
  clear q
  unfold rd_turned Cmp.enc
  generalize hT : (tBin rSubD _ _ : TED) = T0
  generalize hg : gNameD 1 = g0
  walk_at "rdx"
  subst hg
  simp only [Cmp.vsD]
  have e0 : L2.atI [D.int (M.L : Nat), M.rowsD, D.tup (M.vs.map D.int)] 0 = some (.int (M.L : Nat)) := rfl
  have e1 : L2.atI [D.int (M.L : Nat), M.rowsD, D.tup (M.vs.map D.int)] 1 = some M.rowsD := rfl
  have e2 : L2.atI [D.int (M.L : Nat), M.rowsD, D.tup (M.vs.map D.int)] 2 = some (D.tup (M.vs.map D.int)) := rfl
  simp only [e0, e1, e2]
  refine fun hz => ⟨hz, lcD_pure (fun d => match d with
    | .int v => some (.int (0 - v))
    | _ => none) trivial _ [] (fun d hd Q1 Q0 h => ?_) ⟨by decide, ?_⟩⟩
  · obtain ⟨v, hv, rfl⟩ := List.mem_map.mp hd
    subst hT
    walk_at "rdx"
    exact h
  · have fm : (M.vs.map D.int).filterMap (fun d => match d with
      | .int v => some (D.int (0 - v))
      | _ => none) = M.vs.map fun v => D.int (0 - v) := fm_map (f := D.int) fun v hv => rfl
    rw [List.nil_append, fm]
    have : M.turn.enc = .tup [.int (M.L : Nat), M.rowsD, .tup (M.vs.map fun v => D.int (0 - v))] := by
      unfold Cmp.turn Cmp.enc Cmp.vsD Cmp.rowsD
      simp [List.map_map, Function.comp_def]
    rw [← this]
    exact q'
theorem lturned_ok (ds : List D) (S : HD) (Q : QD) (h : spTurned ds S Q) : rd__law_turned (ends Q) (pad 2 ds) S := turned_ok ds S Q h
/-! ### ranks as comparisons -/
def ranked (L : Nat) (r : List Int) : Cmp := ⟨L, [(colP L).map fun p => (rk L r p).toNat, List.replicate (colP L).length 1, List.replicate (colP L).length 2], [0, -1, 1]⟩
theorem rk_b (L : Nat) (r : List Int) (p : Nat × Nat) : 0 ≤ rk L r p ∧ rk L r p ≤ 2 := by
  unfold rk
  repeat' split
  all_goals decide
theorem ranked_enc (L : Nat) (r : List Int) : (ranked L r).enc = rankedD L r := by
  unfold ranked Cmp.enc Cmp.rowsD Cmp.vsD rankedD encR
  have : ((colP L).map fun p => (rk L r p).toNat).map (fun t : Nat => D.int (t : Nat)) = (colP L).map fun p => .int (rk L r p) := by
    rw [List.map_map]
    refine List.map_congr_left fun p _ => ?_
    show D.int (((rk L r p).toNat : Nat) : Int) = _
    rw [Int.toNat_of_nonneg (rk_b L r p).1]
  simp only [List.map_cons, List.map_nil, this, List.map_replicate]
  rfl
theorem ranked_Ok {L : Nat} {r : List Int} (h1 : 1 ≤ L) (h3 : L ≤ 3) : (ranked L r).Ok := by
  have cl : (cols L).length = (colP L).length := by rw [cols_P h1 h3, List.length_map]
  refine ⟨h1, h3, (by decide : 1 ≤ 3), (by decide : 3 ≤ 61), fun x hx => ?_, fun x hx t ht => ?_, rfl, fun v hv => ?_⟩
  · show x.length = (cols L).length
    rw [cl]
    simp only [ranked, List.mem_cons, List.not_mem_nil, or_false] at hx
    rcases hx with rfl | rfl | rfl <;> simp
  · show t < 3
    simp only [ranked, List.mem_cons, List.not_mem_nil, or_false] at hx
    rcases hx with rfl | rfl | rfl
    · obtain ⟨p, _, rfl⟩ := List.mem_map.mp ht
      have := rk_b L r p
      omega
    · rw [List.eq_of_mem_replicate ht]; decide
    · rw [List.eq_of_mem_replicate ht]; decide
  · simp only [ranked, List.mem_cons, List.not_mem_nil, or_false] at hv
    rcases hv with rfl | rfl | rfl <;> decide
end K37
end

section
/-! P37e: comparisons one behind another, in plain Lean. -/
namespace K37
open PySem PySem.Spec PyProof.Rows PD
abbrev Pr := Nat × Nat
def row (M : Cmp) (s : Nat) : List Nat := (M.rows[s]?).getD []
def nxt (M N : Cmp) (p : Pr) : List Pr := (row M p.1).zip (row N p.2)
def addP (ps : List Pr) (q : Pr) : List Pr := if q ∈ ps then ps else ps ++ [q]
def step (M N : Cmp) (i : Nat) (ps : List Pr) : List Pr := match ps[i]? with
  | some p => (nxt M N p).foldl addP ps
  | none => ps
def prs (M N : Cmp) : Nat → List Pr
  | 0 => [(0, 0)]
  | i + 1 => step M N i (prs M N i)
theorem addP_pre (ps : List Pr) (q : Pr) : ps <+: addP ps q := by
  unfold addP
  split
  · exact List.prefix_refl _
  · exact List.prefix_append _ _
theorem fold_pre : ∀ (qs ps : List Pr), ps <+: qs.foldl addP ps
  | [], ps => List.prefix_refl _
  | q :: qs, ps => (addP_pre ps q).trans (fold_pre qs _)
theorem addP_mem (ps : List Pr) (q : Pr) : q ∈ addP ps q := by
  unfold addP
  split
  · assumption
  · simp
theorem fold_mem : ∀ (qs ps : List Pr) (q : Pr), q ∈ qs → q ∈ qs.foldl addP ps
  | [], _, _, h => by cases h
  | r :: qs, ps, q, h => by
    rcases List.mem_cons.mp h with rfl | h
    · exact (fold_pre qs _).subset (addP_mem ps q)
    · exact fold_mem qs (addP ps r) q h
theorem fold_sub : ∀ {qs ps : List Pr} {x : Pr}, x ∈ qs.foldl addP ps → x ∈ ps ∨ x ∈ qs
  | [], ps, x, h => .inl h
  | r :: qs, ps, x, h => by
    rcases fold_sub (qs := qs) h with h | h
    · unfold addP at h
      split at h
      · exact .inl h
      · rcases List.mem_append.mp h with h | h
        · exact .inl h
        · exact .inr (by rw [List.mem_singleton.mp h]; exact List.mem_cons_self)
    · exact .inr (List.mem_cons_of_mem _ h)
theorem addP_nodup {ps : List Pr} {q : Pr} (h : ps.Nodup) : (addP ps q).Nodup := by
  unfold addP
  split
  · exact h
  · rename_i hq
    exact List.nodup_append.mpr ⟨h, by simp, fun a ha b hb => by rw [List.mem_singleton.mp hb]; rintro rfl; exact hq ha⟩
theorem fold_nodup : ∀ {qs ps : List Pr}, ps.Nodup → (qs.foldl addP ps).Nodup
  | [], _, h => h
  | _ :: qs, _, h => fold_nodup (qs := qs) (addP_nodup h)
theorem step_pre (M N : Cmp) (i : Nat) (ps : List Pr) : ps <+: step M N i ps := by
  unfold step
  split
  · exact fold_pre _ _
  · exact List.prefix_refl _
theorem prs_pre (M N : Cmp) {i : Nat} : ∀ {j : Nat}, i ≤ j → prs M N i <+: prs M N j
  | 0, h => by
    obtain rfl : i = 0 := by omega
    exact List.prefix_refl _
  | j + 1, h => by
    by_cases e : i = j + 1
    · rw [e]; exact List.prefix_refl _
    · exact (prs_pre M N (show i ≤ j by omega)).trans (step_pre M N j _)
theorem prs_nodup (M N : Cmp) : ∀ i, (prs M N i).Nodup
  | 0 => by simp [prs]
  | i + 1 => by
    show (step M N i (prs M N i)).Nodup
    unfold step
    split
    · exact fold_nodup (prs_nodup M N i)
    · exact prs_nodup M N i
theorem row_mem {M : Cmp} (ok : M.Ok) {s : Nat} {t : Nat} (h : t ∈ row M s) : t < M.rows.length := by
  unfold row at h
  cases e : M.rows[s]? with
  | none => rw [e] at h; cases h
  | some r => rw [e] at h; exact ok.lt r (List.mem_of_getElem? e) t h
def InP (M N : Cmp) (p : Pr) : Prop := p.1 < M.rows.length ∧ p.2 < N.rows.length
theorem nxt_in {M N : Cmp} (o1 : M.Ok) (o2 : N.Ok) {p q : Pr} (h : q ∈ nxt M N p) : InP M N q := by
  have := List.of_mem_zip (show (q.1, q.2) ∈ (row M p.1).zip (row N p.2) from h)
  exact ⟨row_mem o1 this.1, row_mem o2 this.2⟩
theorem prs_in {M N : Cmp} (o1 : M.Ok) (o2 : N.Ok) : ∀ i, ∀ p ∈ prs M N i, InP M N p
  | 0, p, hp => by
    rw [List.mem_singleton.mp hp]
    exact ⟨o1.n1, o2.n1⟩
  | i + 1, p, hp => by
    have hp : p ∈ step M N i (prs M N i) := hp
    unfold step at hp
    split at hp
    · rcases fold_sub hp with h | h
      · exact prs_in o1 o2 i p h
      · exact nxt_in o1 o2 h
    · exact prs_in o1 o2 i p hp
theorem sub_len {α : Type} [BEq α] [LawfulBEq α] : ∀ {l m : List α}, l.Nodup → (∀ x ∈ l, x ∈ m) → l.length ≤ m.length
  | [], _, _, _ => Nat.zero_le _
  | x :: l, m, hn, hs => by
    rw [List.nodup_cons] at hn
    have hx := hs x List.mem_cons_self
    have ih := sub_len (l := l) (m := m.erase x) hn.2 fun y hy => by
      have ne : y ≠ x := fun e => hn.1 (e ▸ hy)
      exact (List.mem_erase_of_ne ne).mpr (hs y (List.mem_cons_of_mem _ hy))
    rw [List.length_erase_of_mem hx] at ih
    have : 0 < m.length := List.length_pos_of_mem hx
    simp only [List.length_cons]
    omega
theorem prs_len {M N : Cmp} (o1 : M.Ok) (o2 : N.Ok) (i : Nat) : (prs M N i).length ≤ M.rows.length * N.rows.length := by
  have := sub_len (m := (List.range M.rows.length).flatMap fun a => (List.range N.rows.length).map fun b => (a, b)) (prs_nodup M N i) fun p hp => by
    obtain ⟨h1, h2⟩ := prs_in o1 o2 i p hp
    exact List.mem_flatMap.mpr ⟨p.1, List.mem_range.mpr h1, List.mem_map.mpr ⟨p.2, List.mem_range.mpr h2, rfl⟩⟩
  refine Nat.le_trans this ?_
  rw [List.length_flatMap]
  simp [List.map_const', List.sum_replicate_nat]
theorem prs_stop {M N : Cmp} {i : Nat} (h : (prs M N i).length ≤ i) : ∀ j, i ≤ j → prs M N j = prs M N i
  | 0, hj => by
    obtain rfl : i = 0 := by omega
    rfl
  | j + 1, hj => by
    by_cases e : i = j + 1
    · rw [e]
    · have ih := prs_stop h j (by omega)
      show step M N j (prs M N j) = _
      rw [ih]
      unfold step
      rw [List.getElem?_eq_none (by omega)]
/-- all pairs that are met -/
def allP (M N : Cmp) : List Pr := prs M N (M.rows.length * N.rows.length)
theorem allP_of {M N : Cmp} (o1 : M.Ok) (o2 : N.Ok) {i : Nat} (h : (prs M N i).length ≤ i) : prs M N i = allP M N := by
  rcases Nat.le_total i (M.rows.length * N.rows.length) with l | l
  · exact (prs_stop h _ l).symm
  · exact prs_stop (prs_len o1 o2 _) _ l
theorem prs_all {M N : Cmp} (o1 : M.Ok) (o2 : N.Ok) (i : Nat) : prs M N i <+: allP M N := by
  rcases Nat.le_total i (M.rows.length * N.rows.length) with l | l
  · exact prs_pre M N l
  · rw [show prs M N i = allP M N from prs_stop (prs_len o1 o2 _) _ l]; exact List.prefix_refl _
theorem idx_pre {a b : List Pr} (h : a <+: b) {q : Pr} (hq : q ∈ a) : b.idxOf q = a.idxOf q := by
  obtain ⟨c, rfl⟩ := h
  rw [List.idxOf_append, if_pos hq]
theorem nxt_mem {M N : Cmp} {i : Nat} {p q : Pr} (hp : (prs M N i)[i]? = some p) (hq : q ∈ nxt M N p) : q ∈ prs M N (i + 1) := by
  show q ∈ step M N i (prs M N i)
  unfold step
  rw [hp]
  exact fold_mem _ _ _ hq
def rowT (M N : Cmp) (p : Pr) : List Nat := (nxt M N p).map fun q => (allP M N).idxOf q
def Cmp.ver (M : Cmp) (s : Nat) : Int := (M.vs[s]?).getD 0
def verT (M N : Cmp) (p : Pr) : Int := if M.ver p.1 ≠ 0 then M.ver p.1 else N.ver p.2
/-- M, and N behind it -/
def thenC (M N : Cmp) : Cmp := ⟨M.L, (allP M N).map (rowT M N), (allP M N).map (verT M N)⟩
end K37
end

section
/-! P37f: the law's own look at comparisons one behind another. -/
namespace K37
open PySem PySem.Spec PyProof.Rows PD
local macro_rules | `(tactic| walk_at "rdx") => `(tactic| simp only [PD.pad, PD.gt_z, PD.gt_s, PD.st_z, PD.st_s, PD.sNextD, PD.sSeqD, PD.sBreakD, PD.sContD, PD.sDropD, PD.sRetD, PD.sRetND, PD.sIfD, PD.sNeverD, PD.sAsgD, PD.sPar2, PD.sPar3, PD.gNameD, PD.gNilD, PD.gConsD, PD.gTupD, PD.gSubD, PD.tNilD, PD.tConsD, PD.tTupD, PD.tLstV, PD.tLstR, PD.tBin, PD.tTst, PD.tAndD, PD.tOrD, PD.tNotD, PD.tIfD, PD.tAndV, PD.tOrV, PD.tNotV, PD.tUnD, PD.rNeg, PD.tCallD, PD.tSlot, PD.tCD, PD.tChainD, PD.rIsN, PD.rNotN, PD.rIsiD, PD.isi_non, PD.isi_bl, PD.isi_int, PD.isi_str, PD.isi_tup, PD.isi_lst, PD.isi_dic, PD.Ty.name, PD.rCmpI, PD.fLt, PD.fLe, PD.fGt, PD.fGe, PD.rAddD, PD.rSubD, PD.rFdivD, PD.rModD, PD.rPowD, PD.rMulD, PD.rAddR, PD.rMulR, PD.asSeq, PD.asLst, PD.rLenD, PD.rTupleD, PD.rListV, PD.rListR, PD.rIntD, PD.rBoolD, PD.rAbsD, PD.rIxD, PD.oNone, PD.oSome, PD.tSlD, PD.rSlD, PD.tRevTD, PD.rEqD, PD.rNeD, PD.nrm_non, PD.nrm_bl, PD.nrm_int, PD.nrm_str, PD.nrm_tup, PD.nrm_lst, PD.nrm_dic, PD.nrm_ref, PD.iSeqD, PD.iRng1D, PD.iRng2D, PD.sForD, PD.tLcV, PD.tLcR, PD.tYesD, PD.wipeD, PD.tMethL, PD.rAppD, PD.isRefL, PD.tDicV, PD.keyOf, PD.asDic, PD.srcD, PD.iAnyD, PD.iZipD, PD.iEnumD, PD.tDcV, PD.tDicR, PD.gSubX, PD.rSetX, PD.rIxX, PD.rInD, PD.rInX, PD.rInY, PD.rInZ, PD.rSumD, PD.tRevLD, PD.tRevX, PD.rSixD, PD.rJoinD, PD.tMethS, PD.rLixD, PD.rPopD, PD.rExtD, PD.tMethA, PD.rSetD, PD.rReprD, PD.eqk_int, PD.eqd_int, PD.eqk_str, PD.eqd_str, PD.eqk_lst0, PD.eqd_lst0, PD.eqk_tup0, PD.eqd_tup0, PD.tdOf, PD.rInW, PD.rIxW, PD.rSetW, PD.gSubW, PD.rLenW, PD.rGetW, PD.rGetAt, PD.tMethW, PD.rSetdW, PD.tDispR, PD.tPairsD, PD.putAll, PD.tDisp1T, PD.gSeqD, PD.rListW, PD.tLenSetD, PD.tFldD, PD.fldD, PD.tMethC, PD.methD, PD.tMakeD, PD.sFldD, PD.tMethB, PD.rLjD, PD.tCallX, PD.sRetX, PD.sRaiseD, PD.sTryD, PD.hdlD, PD.noX, PD.rExtX, PD.rTupleX, PD.gUnpD, PD.tDictZ, PD.rInP, PD.rLixP, PD.tCallE, PD.tNilL, PD.tConsL, PD.tLamL, PD.tCallL, PD.tDispV, Option.map_some, Option.bind_some, PD.spFn, PD.spDraw, reduceIte, true_and, and_true, or_false, false_or, Bool.not_true, Bool.not_false, Bool.false_eq_true, List.length_cons, List.length_nil, List.set_cons_zero, List.set_cons_succ, PD.HD.set_same, PD.HD.tick_hp, PD.HD.tick_c, PD.HD.tick_dk, PD.HD.set_c, PD.HD.set_dk])
local macro_rules | `(tactic| simp_all only [$xs,*]) => `(tactic| simp only [PD.pad, PD.gt_z, PD.gt_s, PD.st_z, PD.st_s, PD.sNextD, PD.sSeqD, PD.sBreakD, PD.sContD, PD.sDropD, PD.sRetD, PD.sRetND, PD.sIfD, PD.sNeverD, PD.sAsgD, PD.sPar2, PD.sPar3, PD.gNameD, PD.gNilD, PD.gConsD, PD.gTupD, PD.gSubD, PD.tNilD, PD.tConsD, PD.tTupD, PD.tLstV, PD.tLstR, PD.tBin, PD.tTst, PD.tAndD, PD.tOrD, PD.tNotD, PD.tIfD, PD.tAndV, PD.tOrV, PD.tNotV, PD.tUnD, PD.rNeg, PD.tCallD, PD.tSlot, PD.tCD, PD.tChainD, PD.rIsN, PD.rNotN, PD.rIsiD, PD.isi_non, PD.isi_bl, PD.isi_int, PD.isi_str, PD.isi_tup, PD.isi_lst, PD.isi_dic, PD.Ty.name, PD.rCmpI, PD.fLt, PD.fLe, PD.fGt, PD.fGe, PD.rAddD, PD.rSubD, PD.rFdivD, PD.rModD, PD.rPowD, PD.rMulD, PD.rAddR, PD.rMulR, PD.asSeq, PD.asLst, PD.rLenD, PD.rTupleD, PD.rListV, PD.rListR, PD.rIntD, PD.rBoolD, PD.rAbsD, PD.rIxD, PD.oNone, PD.oSome, PD.tSlD, PD.rSlD, PD.tRevTD, PD.rEqD, PD.rNeD, PD.nrm_non, PD.nrm_bl, PD.nrm_int, PD.nrm_str, PD.nrm_tup, PD.nrm_lst, PD.nrm_dic, PD.nrm_ref, PD.iSeqD, PD.iRng1D, PD.iRng2D, PD.sForD, PD.tLcV, PD.tLcR, PD.tYesD, PD.wipeD, PD.tMethL, PD.rAppD, PD.isRefL, PD.tDicV, PD.keyOf, PD.asDic, PD.srcD, PD.iAnyD, PD.iZipD, PD.iEnumD, PD.tDcV, PD.tDicR, PD.gSubX, PD.rSetX, PD.rIxX, PD.rInD, PD.rInX, PD.rInY, PD.rInZ, PD.rSumD, PD.tRevLD, PD.tRevX, PD.rSixD, PD.rJoinD, PD.tMethS, PD.rLixD, PD.rPopD, PD.rExtD, PD.tMethA, PD.rSetD, PD.rReprD, PD.eqk_int, PD.eqd_int, PD.eqk_str, PD.eqd_str, PD.eqk_lst0, PD.eqd_lst0, PD.eqk_tup0, PD.eqd_tup0, PD.tdOf, PD.rInW, PD.rIxW, PD.rSetW, PD.gSubW, PD.rLenW, PD.rGetW, PD.rGetAt, PD.tMethW, PD.rSetdW, PD.tDispR, PD.tPairsD, PD.putAll, PD.tDisp1T, PD.gSeqD, PD.rListW, PD.tLenSetD, PD.tFldD, PD.fldD, PD.tMethC, PD.methD, PD.tMakeD, PD.sFldD, PD.tMethB, PD.rLjD, PD.tCallX, PD.sRetX, PD.sRaiseD, PD.sTryD, PD.hdlD, PD.noX, PD.rExtX, PD.rTupleX, PD.gUnpD, PD.tDictZ, PD.rInP, PD.rLixP, PD.tCallE, PD.tNilL, PD.tConsL, PD.tLamL, PD.tCallL, PD.tDispV, Option.map_some, Option.bind_some, PD.spFn, PD.spDraw, reduceIte, true_and, and_true, or_false, false_or, Bool.not_true, Bool.not_false, Bool.false_eq_true, List.length_cons, List.length_nil, List.set_cons_zero, List.set_cons_succ, PD.HD.set_same, PD.HD.tick_hp, PD.HD.tick_c, PD.HD.tick_dk, PD.HD.set_c, PD.HD.set_dk, $xs,*])
def prD (p : Pr) : D := .tup [.int (p.1 : Nat), .int (p.2 : Nat)]
theorem eqd_prD (p q : Pr) : eqd (prD p) (prD q) = decide (p = q) := by
  rw [Bool.eq_iff_iff, decide_eq_true_eq]
  show PyData.eqvAll [.int (p.1 : Nat), .int (p.2 : Nat)] [.int (q.1 : Nat), .int (q.2 : Nat)] = true ↔ _
  simp only [PyData.eqvAll, PyData.eqv, Bool.and_true, Bool.and_eq_true, beq_iff_eq]
  constructor
  · rintro ⟨h1, h2⟩
    exact Prod.ext (by omega) (by omega)
  · rintro rfl
    exact ⟨rfl, rfl⟩
theorem okP_prD (p : Pr) : okP (prD p) = true := by
  simp [okP, prD, okE, okEL, dep, depL]
theorem any_prD (ps : List Pr) (q : Pr) : (ps.map prD).any (fun d => eqd d (prD q)) = decide (q ∈ ps) := by
  rw [Bool.eq_iff_iff, decide_eq_true_eq, List.any_eq_true]
  constructor
  · rintro ⟨d, hd, e⟩
    obtain ⟨p, hp, rfl⟩ := List.mem_map.mp hd
    rw [eqd_prD, decide_eq_true_eq] at e
    rw [← e]; exact hp
  · intro h
    exact ⟨prD q, List.mem_map.mpr ⟨q, h, rfl⟩, by rw [eqd_prD]; exact decide_eq_true rfl⟩
theorem all_prD (ps : List Pr) : (ps.map prD).all okP = true := by
  rw [List.all_map]
  exact List.all_eq_true.mpr fun p _ => okP_prD p
theorem idx_prD : ∀ (ps : List Pr) (q : Pr), ((ps.map prD).map fun d => eqd d (prD q)).idxOf true = ps.idxOf q
  | [], _ => rfl
  | p :: ps, q => by
    simp only [List.map_cons, List.idxOf_cons, eqd_prD]
    by_cases e : p = q
    · subst e; simp
    · have ih := idx_prD ps q
      rw [decide_eq_false e, ih]
      have : (p == q) = false := by simpa using e
      rw [this]
      rfl
theorem mem_prD {ps : List Pr} {q : Pr} (h : q ∈ ps) : true ∈ (ps.map prD).map fun d => eqd d (prD q) := by
  rw [List.map_map]
  exact List.mem_map.mpr ⟨q, h, by show eqd (prD q) (prD q) = true; rw [eqd_prD]; exact decide_eq_true rfl⟩
theorem zip_prD (xs ys : List Nat) : zipD (xs.map fun t => D.int (t : Nat)) (ys.map fun t => D.int (t : Nat)) = (xs.zip ys).map prD := by
  unfold zipD
  rw [List.zip_map, List.map_map]
  rfl
theorem row_at {M : Cmp} {s : Nat} (h : s < M.rows.length) : L2.atI (M.rows.map encR) ((s : Nat) : Int) = some (.tup ((row M s).map fun t => D.int (t : Nat))) := by
  have e : M.rows[s]? = some M.rows[s] := List.getElem?_eq_getElem h
  rw [atI_map e]
  unfold row
  rw [e]
  rfl
theorem row_len {M : Cmp} (ok : M.Ok) (s : Nat) : (row M s).length ≤ 15 := by
  unfold row
  cases e : M.rows[s]? with
  | none => exact Nat.zero_le _
  | some r =>
    have := ok.wd r (List.mem_of_getElem? e)
    have h1 := ok.l1
    have h3 := ok.l3
    rw [cols_P h1 h3, List.length_map] at this
    have := (colP_len h1 h3).1
    show r.length ≤ 15
    omega
theorem asLst_r {S : HD} {p : Addr} {zs : List D} (h : S.hp p = some (.lst zs)) : asLst S (.ref p) = some zs := by simp [asLst, h]
theorem fold_take (qs ps : List Pr) (j : Nat) : (qs.take j).foldl addP ps <+: qs.foldl addP ps := by
  have : qs.foldl addP ps = (qs.drop j).foldl addP ((qs.take j).foldl addP ps) := by
    rw [← List.foldl_append, List.take_append_drop]
  rw [this]
  exact fold_pre _ _
theorem fold_snoc {qs : List Pr} {j : Nat} {q : Pr} (h : qs[j]? = some q) (ps : List Pr) : (qs.take (j + 1)).foldl addP ps = addP ((qs.take j).foldl addP ps) q := by
  rw [List.take_add_one, h]
  simp
theorem ver_at {M : Cmp} (ok : M.Ok) {s : Nat} (h : s < M.rows.length) : L2.atI (M.vs.map D.int) ((s : Nat) : Int) = some (.int (M.ver s)) := by
  have h : s < M.vs.length := by rw [ok.vl]; exact h
  have e : M.vs[s]? = some M.vs[s] := List.getElem?_eq_getElem h
  rw [atI_map e]
  unfold Cmp.ver
  rw [e]
  rfl
def spLThen : SpD := fun ds S Q => ∃ M N : Cmp, ds = [M.enc, N.enc] ∧ M.Ok ∧ N.Ok ∧ Q (thenC M N).enc S
theorem lthen_len (ds : List D) (S : HD) (Q : QD) (h : spLThen ds S Q) : ds.length = 2 := by
  obtain ⟨_, _, rfl, _⟩ := h
  rfl
theorem en0 (M : Cmp) : L2.atI [D.int (M.L : Nat), .tup (M.rows.map encR), .tup (M.vs.map D.int)] 0 = some (.int (M.L : Nat)) := rfl
theorem en1 (M : Cmp) : L2.atI [D.int (M.L : Nat), .tup (M.rows.map encR), .tup (M.vs.map D.int)] 1 = some (.tup (M.rows.map encR)) := rfl
theorem en2 (M : Cmp) : L2.atI [D.int (M.L : Nat), .tup (M.rows.map encR), .tup (M.vs.map D.int)] 2 = some (.tup (M.vs.map D.int)) := rfl
theorem lthen_ok (ds : List D) (S : HD) (Q : QD) (h : spLThen ds S Q) : rd__law_then (ends Q) (pad 9 ds) S := by
  obtain ⟨M, N, rfl, o1, o2, q⟩ := h
  have hsl : (sizeLine : Nat) = 16777216 := rfl
  have n1 := o1.n61
  have n2 := o2.n61
  have nn : M.rows.length * N.rows.length ≤ 61 * 61 := Nat.mul_le_mul n1 n2
  unfold rd__law_then
  refine seq_step fun N1 hN1 => ?_
  simp only [Cmp.enc, Cmp.rowsD, Cmp.vsD]
  walk_at "rdx"
  refine ⟨by decide, by decide, fun p2 hp2 => ⟨by decide, fun p3 hp3 => ⟨by decide, hN1 _ _ ?_⟩⟩⟩
  clear hN1 N1
  have ne : p3 ≠ p2 := fun e => by rw [e, HD.set_same] at hp3; cases hp3
  have n3 : S.hp p3 = none := by rw [HD.set_ne ne] at hp3; exact hp3
  refine seq_step fun N1 hN1 => ?_
  generalize hB : (sIfD (tTst (tBin (rCmpI fLt) (tSlot 4) _)) _ _ : TSD) = B1
  walk_at "rdx"
  simp only [en1, List.length_map]
  have em : ((M.rows.length : Int) * (N.rows.length : Int)) = ((M.rows.length * N.rows.length : Nat) : Int) := by push_cast; rfl
  refine ⟨.inl ⟨by omega, by omega⟩, by rw [em]; omega, ?_⟩
  rw [em, Int.toNat_natCast]
  refine loopD_go (fun i σ S' => (∃ v4 v5 v6 v7, σ = [some (.tup [D.int (M.L : Nat), .tup (M.rows.map encR), .tup (M.vs.map D.int)]), some (.tup [D.int (N.L : Nat), .tup (N.rows.map encR), .tup (N.vs.map D.int)]), some (.ref p2), some (.ref p3), v4, v5, v6, v7, none]) ∧
      S'.hp p2 = some (.lst ((prs M N i).map prD)) ∧ S'.hp p3 = some (.lst (((allP M N).take i).map fun p => encR (rowT M N p))) ∧ HLe S S')
    ⟨⟨_, _, _, _, rfl⟩, by rw [HD.set_ne ne.symm, HD.set_same]; rfl, by rw [HD.set_same]; rfl, ((HLe.refl S).wr hp2).wr n3⟩
    (fun i d σ S' N' hi ⟨⟨v4, v5, v6, v7, e1⟩, g2, g3, up⟩ k => ⟨trivial, ?_⟩) (fun σ S' ⟨⟨v4, v5, v6, v7, e1⟩, g2, g3, up⟩ => ⟨trivial, ?_⟩)
  · obtain ⟨hi1, rfl⟩ := rngD_get hi
    have ln := prs_len o1 o2 i
    have la : (allP M N).length ≤ M.rows.length * N.rows.length := prs_len o1 o2 (M.rows.length * N.rows.length)
    subst e1
    rw [Int.zero_add]
    walk_at "rdx"
    subst hB
    generalize hC : (sSeqD (sAsgD (tBin rIxX (tSlot 2) (tSlot 4)) _) _ : TSD) = C1
    walk_at "rdx"
    simp only [g2, List.length_map]
    by_cases hlt : i < (prs M N i).length
    · have hlt' : (i : Int) < (((prs M N i).length : Nat) : Int) := by omega
      simp only [hlt', decide_true, if_true]
      subst hC
      have hp : (prs M N i)[i]? = some (prs M N i)[i] := List.getElem?_eq_getElem hlt
      have hpm := prs_in o1 o2 i _ (List.getElem_mem hlt)
      generalize (prs M N i)[i] = p at hp hpm
      have a1 : L2.atI ((prs M N i).map prD) ((i : Nat) : Int) = some (prD p) := atI_map hp
      have e1 : prs M N (i + 1) = (nxt M N p).foldl addP (prs M N i) := by
        show step M N i (prs M N i) = _
        unfold step
        rw [hp]
      have ea : (allP M N)[i]? = some p := by
        obtain ⟨c, ec⟩ := prs_all o1 o2 i
        rw [← ec, List.getElem?_append_left hlt, hp]
      refine seq_step fun N2 hN2 => ?_
      walk_at "rdx"
      simp only [g2, a1, prD]
      refine ⟨rfl, trivial, hN2 _ _ ?_⟩
      clear hN2 N2
      -- the pairs that are new
      have r1 := row_at (M := M) hpm.1
      have r2 := row_at (M := N) hpm.2
      have w1 := row_len o1 p.1
      have wn : (nxt M N p).length ≤ 15 := by
        unfold nxt
        rw [List.length_zip]
        omega
      have zz : zipD ((row M p.1).map fun t => D.int (t : Nat)) ((row N p.2).map fun t => D.int (t : Nat)) = (nxt M N p).map prD := zip_prD _ _
      refine seq_step fun N2 hN2 => ?_
      generalize hC : (sIfD (tTst (tBin (rInP true) _ _)) _ _ : TSD) = C1
      generalize hg : gNameD 7 = g0
      walk_at "rdx"
      simp only [en1, r1, r2]
      rw [zz]
      refine loopD_go (fun j σ S2 => (∃ v7, σ = [some (.tup [D.int (M.L : Nat), .tup (M.rows.map encR), .tup (M.vs.map D.int)]), some (.tup [D.int (N.L : Nat), .tup (N.rows.map encR), .tup (N.vs.map D.int)]), some (.ref p2), some (.ref p3), some (.int (i : Nat)), some (.int (p.1 : Nat)), some (.int (p.2 : Nat)), v7, none]) ∧
          S2.hp p2 = some (.lst ((((nxt M N p).take j).foldl addP (prs M N i)).map prD)) ∧ S2.hp p3 = some (.lst (((allP M N).take i).map fun p => encR (rowT M N p))) ∧ HLe S S2)
        ⟨⟨_, rfl⟩, g2, g3, up⟩ (fun j d σ S2 N3 hj ⟨⟨v7, e2⟩, k2, k3, up2⟩ kk => ⟨⟨trivial, trivial⟩, ?_⟩) (fun σ S2 ⟨⟨v7, e2⟩, k2, k3, up2⟩ => ⟨⟨trivial, trivial⟩, ?_⟩)
      · subst e2
        rw [List.getElem?_map] at hj
        obtain ⟨c, hc, rfl⟩ := Option.map_eq_some_iff.mp hj
        have lc : (((nxt M N p).take j).foldl addP (prs M N i)).length ≤ M.rows.length * N.rows.length := by
          have h1 := (fold_take (nxt M N p) (prs M N i) j).length_le
          rw [← e1] at h1
          exact Nat.le_trans h1 (prs_len o1 o2 _)
        have snoc := fold_snoc hc (prs M N i)
        generalize ((nxt M N p).take j).foldl addP (prs M N i) = cur at k2 lc snoc
        subst hg
        walk_at "rdx"
        subst hC
        have an := any_prD cur c
        have ok1 := okP_prD c
        simp only [prD] at an ok1 ⊢
        walk_at "rdx"
        simp only [k2]
        refine ⟨⟨ok1, all_prD cur⟩, ?_⟩
        rw [an]
        by_cases hm : c ∈ cur
        · simp only [hm, decide_true, Bool.not_true, Bool.false_eq_true, if_false]
          refine kk _ _ ⟨⟨_, rfl⟩, ?_, k3, up2⟩
          rw [snoc]
          unfold addP
          rw [if_pos hm]
          exact k2
        · simp only [hm, decide_false, Bool.not_false, if_true]
          refine ⟨⟨_, rfl⟩, by rw [List.length_map]; omega, kk _ _ ⟨⟨_, rfl⟩, ?_, by rw [HD.set_ne ne]; exact k3, up2.wr hp2⟩⟩
          rw [HD.set_same, snoc]
          unfold addP
          rw [if_neg hm, List.map_append]
          rfl
      · subst e2
        rw [List.length_map, List.take_length, ← e1] at k2
        clear hC hg
        refine hN2 _ _ ?_
        clear hN2 N2
        have l2 := prs_len o1 o2 (i + 1)
        generalize hg : gNameD 7 = g0
        generalize hC : (tMethA rLixP _ _ : TED) = C1
        walk_at "rdx"
        simp only [en1, r1, r2]
        rw [zz]
        subst hg
        refine ⟨⟨_, k3⟩, by rw [List.length_map]; omega, ?_⟩
        refine lcD_pure (fun d => match d with
          | .tup [.int a, .int b] => some (.int ((allP M N).idxOf (a.toNat, b.toNat) : Nat))
          | _ => none) ⟨trivial, trivial⟩ _ [] (fun d hd Q1 Q0 h => ?_) ?_
        · obtain ⟨c, hc, rfl⟩ := List.mem_map.mp hd
          subst hC
          have cm := nxt_mem hp hc
          have ix := idx_prD (prs M N (i + 1)) c
          have ok1 := okP_prD c
          have mm := mem_prD cm
          have ie : (prs M N (i + 1)).idxOf c = (allP M N).idxOf c := (idx_pre (prs_all o1 o2 (i + 1)) cm).symm
          simp only [prD] at ix ok1 mm h ⊢
          walk_at "rdx"
          refine ⟨⟨_, asLst_r k2⟩, ?_⟩
          simp only [k2]
          refine ⟨⟨ok1, all_prD _⟩, mm, ?_⟩
          rw [ix, ie]
          exact h
        · have fm : ((nxt M N p).map prD).filterMap (fun d => match d with
            | .tup [.int a, .int b] => some (D.int ((allP M N).idxOf (a.toNat, b.toNat) : Nat))
            | _ => none) = (rowT M N p).map fun t => D.int (t : Nat) := by
            rw [fm_map (f := prD) (h := fun c => D.int ((allP M N).idxOf c : Nat)) fun c hc => rfl]
            unfold rowT
            rw [List.map_map]
            rfl
          rw [List.nil_append, fm]
          simp only [k3]
          refine ⟨by rw [List.length_map, List.length_take]; omega, k _ _ ⟨⟨_, _, _, _, rfl⟩, by rw [HD.set_ne ne.symm]; exact k2, ?_, up2.wr n3⟩⟩
          rw [HD.set_same, List.take_add_one, ea, List.map_append]
          rfl
    · have hlt' : ¬ (i : Int) < (((prs M N i).length : Nat) : Int) := by omega
      simp only [hlt', decide_false, Bool.false_eq_true, if_false]
      have es : prs M N (i + 1) = prs M N i := prs_stop (by omega) _ (Nat.le_succ i)
      have ea : prs M N i = allP M N := allP_of o1 o2 (by omega)
      refine k _ _ ⟨⟨_, _, _, _, rfl⟩, by rw [es]; exact g2, ?_, up⟩
      rw [List.take_of_length_le (by rw [← ea]; omega)] at g3 ⊢
      exact g3
  · subst e1
    rw [rngD_len] at g2 g3
    clear hB
    refine hN1 _ _ ?_
    clear hN1 N1
    have la : (allP M N).length ≤ M.rows.length * N.rows.length := prs_len o1 o2 (M.rows.length * N.rows.length)
    have g2 : S'.hp p2 = some (.lst ((allP M N).map prD)) := g2
    rw [List.take_of_length_le la] at g3
    refine seq_step fun N1 hN1 => ?_
    generalize hT : (tIfD _ _ _ : TED) = T0
    generalize hg : (gTupD 2 _ : TGD) = g0
    walk_at "rdx"
    rw [g2]
    dsimp only
    subst hg
    refine fun hz => ⟨by rw [List.length_map]; omega, ?_⟩
    refine lcD_pure (fun d => match d with
      | .tup [.int a, .int b] => some (.int (verT M N (a.toNat, b.toNat)))
      | _ => none) g2 _ [] (fun d hd Q1 Q0 h => ?_) ?_
    · obtain ⟨p, hp, rfl⟩ := List.mem_map.mp hd
      have hpm := prs_in o1 o2 _ p hp
      subst hT
      simp only [prD] at h ⊢
      walk_at "rdx"
      simp only [en2, ver_at o1 hpm.1, ver_at o2 hpm.2, nrm_int, eqk_int, eqd_int]
      unfold verT at h
      simp only [Int.toNat_natCast] at h
      refine ⟨trivial, ?_⟩
      by_cases e : M.ver p.1 = 0
      · simpa [e] using h
      · simpa [e] using h
    · refine hN1 _ _ ?_
      clear hN1 N1
      have fm : ((allP M N).map prD).filterMap (fun d => match d with
        | .tup [.int a, .int b] => some (D.int (verT M N (a.toNat, b.toNat)))
        | _ => none) = (allP M N).map fun p => D.int (verT M N p) := fm_map (f := prD) fun p hp => rfl
      rw [List.nil_append, fm]
      walk_at "rdx"
      simp only [en0, g3]
      have ee : (thenC M N).enc = .tup [.int (M.L : Nat), .tup ((allP M N).map fun p => encR (rowT M N p)), .tup ((allP M N).map fun p => D.int (verT M N p))] := by
        unfold thenC Cmp.enc Cmp.rowsD Cmp.vsD
        rw [List.map_map, List.map_map]
        rfl
      rw [← ee]
      exact ⟨by decide, fin.le up q⟩
end K37
end

section
/-! P37g: the pairs that are met, by a dict. -/
namespace K37
open PySem PySem.Spec PyProof.Rows PD
local macro_rules | `(tactic| walk_at "rdx") => `(tactic| simp only [PD.pad, PD.gt_z, PD.gt_s, PD.st_z, PD.st_s, PD.sNextD, PD.sSeqD, PD.sBreakD, PD.sContD, PD.sDropD, PD.sRetD, PD.sRetND, PD.sIfD, PD.sNeverD, PD.sAsgD, PD.sPar2, PD.sPar3, PD.gNameD, PD.gNilD, PD.gConsD, PD.gTupD, PD.gSubD, PD.tNilD, PD.tConsD, PD.tTupD, PD.tLstV, PD.tLstR, PD.tBin, PD.tTst, PD.tAndD, PD.tOrD, PD.tNotD, PD.tIfD, PD.tAndV, PD.tOrV, PD.tNotV, PD.tUnD, PD.rNeg, PD.tCallD, PD.tSlot, PD.tCD, PD.tChainD, PD.rIsN, PD.rNotN, PD.rIsiD, PD.isi_non, PD.isi_bl, PD.isi_int, PD.isi_str, PD.isi_tup, PD.isi_lst, PD.isi_dic, PD.Ty.name, PD.rCmpI, PD.fLt, PD.fLe, PD.fGt, PD.fGe, PD.rAddD, PD.rSubD, PD.rFdivD, PD.rModD, PD.rPowD, PD.rMulD, PD.rAddR, PD.rMulR, PD.asSeq, PD.asLst, PD.rLenD, PD.rTupleD, PD.rListV, PD.rListR, PD.rIntD, PD.rBoolD, PD.rAbsD, PD.rIxD, PD.oNone, PD.oSome, PD.tSlD, PD.rSlD, PD.tRevTD, PD.rEqD, PD.rNeD, PD.nrm_non, PD.nrm_bl, PD.nrm_int, PD.nrm_str, PD.nrm_tup, PD.nrm_lst, PD.nrm_dic, PD.nrm_ref, PD.iSeqD, PD.iRng1D, PD.iRng2D, PD.sForD, PD.tLcV, PD.tLcR, PD.tYesD, PD.wipeD, PD.tMethL, PD.rAppD, PD.isRefL, PD.tDicV, PD.keyOf, PD.asDic, PD.srcD, PD.iAnyD, PD.iZipD, PD.iEnumD, PD.tDcV, PD.tDicR, PD.gSubX, PD.rSetX, PD.rIxX, PD.rInD, PD.rInX, PD.rInY, PD.rInZ, PD.rSumD, PD.tRevLD, PD.tRevX, PD.rSixD, PD.rJoinD, PD.tMethS, PD.rLixD, PD.rPopD, PD.rExtD, PD.tMethA, PD.rSetD, PD.rReprD, PD.eqk_int, PD.eqd_int, PD.eqk_str, PD.eqd_str, PD.eqk_lst0, PD.eqd_lst0, PD.eqk_tup0, PD.eqd_tup0, PD.tdOf, PD.rInW, PD.rIxW, PD.rSetW, PD.gSubW, PD.rLenW, PD.rGetW, PD.rGetAt, PD.tMethW, PD.rSetdW, PD.tDispR, PD.tPairsD, PD.putAll, PD.tDisp1T, PD.gSeqD, PD.rListW, PD.tLenSetD, PD.tFldD, PD.fldD, PD.tMethC, PD.methD, PD.tMakeD, PD.sFldD, PD.tMethB, PD.rLjD, PD.tCallX, PD.sRetX, PD.sRaiseD, PD.sTryD, PD.hdlD, PD.noX, PD.rExtX, PD.rTupleX, PD.gUnpD, PD.tDictZ, PD.rInP, PD.rLixP, PD.tCallE, PD.tNilL, PD.tConsL, PD.tLamL, PD.tCallL, PD.tDispV, Option.map_some, Option.bind_some, PD.spFn, PD.spDraw, reduceIte, true_and, and_true, or_false, false_or, Bool.not_true, Bool.not_false, Bool.false_eq_true, List.length_cons, List.length_nil, List.set_cons_zero, List.set_cons_succ, PD.HD.set_same, PD.HD.tick_hp, PD.HD.tick_c, PD.HD.tick_dk, PD.HD.set_c, PD.HD.set_dk])
local macro_rules | `(tactic| simp_all only [$xs,*]) => `(tactic| simp only [PD.pad, PD.gt_z, PD.gt_s, PD.st_z, PD.st_s, PD.sNextD, PD.sSeqD, PD.sBreakD, PD.sContD, PD.sDropD, PD.sRetD, PD.sRetND, PD.sIfD, PD.sNeverD, PD.sAsgD, PD.sPar2, PD.sPar3, PD.gNameD, PD.gNilD, PD.gConsD, PD.gTupD, PD.gSubD, PD.tNilD, PD.tConsD, PD.tTupD, PD.tLstV, PD.tLstR, PD.tBin, PD.tTst, PD.tAndD, PD.tOrD, PD.tNotD, PD.tIfD, PD.tAndV, PD.tOrV, PD.tNotV, PD.tUnD, PD.rNeg, PD.tCallD, PD.tSlot, PD.tCD, PD.tChainD, PD.rIsN, PD.rNotN, PD.rIsiD, PD.isi_non, PD.isi_bl, PD.isi_int, PD.isi_str, PD.isi_tup, PD.isi_lst, PD.isi_dic, PD.Ty.name, PD.rCmpI, PD.fLt, PD.fLe, PD.fGt, PD.fGe, PD.rAddD, PD.rSubD, PD.rFdivD, PD.rModD, PD.rPowD, PD.rMulD, PD.rAddR, PD.rMulR, PD.asSeq, PD.asLst, PD.rLenD, PD.rTupleD, PD.rListV, PD.rListR, PD.rIntD, PD.rBoolD, PD.rAbsD, PD.rIxD, PD.oNone, PD.oSome, PD.tSlD, PD.rSlD, PD.tRevTD, PD.rEqD, PD.rNeD, PD.nrm_non, PD.nrm_bl, PD.nrm_int, PD.nrm_str, PD.nrm_tup, PD.nrm_lst, PD.nrm_dic, PD.nrm_ref, PD.iSeqD, PD.iRng1D, PD.iRng2D, PD.sForD, PD.tLcV, PD.tLcR, PD.tYesD, PD.wipeD, PD.tMethL, PD.rAppD, PD.isRefL, PD.tDicV, PD.keyOf, PD.asDic, PD.srcD, PD.iAnyD, PD.iZipD, PD.iEnumD, PD.tDcV, PD.tDicR, PD.gSubX, PD.rSetX, PD.rIxX, PD.rInD, PD.rInX, PD.rInY, PD.rInZ, PD.rSumD, PD.tRevLD, PD.tRevX, PD.rSixD, PD.rJoinD, PD.tMethS, PD.rLixD, PD.rPopD, PD.rExtD, PD.tMethA, PD.rSetD, PD.rReprD, PD.eqk_int, PD.eqd_int, PD.eqk_str, PD.eqd_str, PD.eqk_lst0, PD.eqd_lst0, PD.eqk_tup0, PD.eqd_tup0, PD.tdOf, PD.rInW, PD.rIxW, PD.rSetW, PD.gSubW, PD.rLenW, PD.rGetW, PD.rGetAt, PD.tMethW, PD.rSetdW, PD.tDispR, PD.tPairsD, PD.putAll, PD.tDisp1T, PD.gSeqD, PD.rListW, PD.tLenSetD, PD.tFldD, PD.fldD, PD.tMethC, PD.methD, PD.tMakeD, PD.sFldD, PD.tMethB, PD.rLjD, PD.tCallX, PD.sRetX, PD.sRaiseD, PD.sTryD, PD.hdlD, PD.noX, PD.rExtX, PD.rTupleX, PD.gUnpD, PD.tDictZ, PD.rInP, PD.rLixP, PD.tCallE, PD.tNilL, PD.tConsL, PD.tLamL, PD.tCallL, PD.tDispV, Option.map_some, Option.bind_some, PD.spFn, PD.spDraw, reduceIte, true_and, and_true, or_false, false_or, Bool.not_true, Bool.not_false, Bool.false_eq_true, List.length_cons, List.length_nil, List.set_cons_zero, List.set_cons_succ, PD.HD.set_same, PD.HD.tick_hp, PD.HD.tick_c, PD.HD.tick_dk, PD.HD.set_c, PD.HD.set_dk, $xs,*])
theorem while_go {c : TTD} {tb : TSD} {E : EndsD} (I : Nat → SD → HD → Prop)
    (step : ∀ (n : Nat) (σ : SD) (S : HD) (N : SD → HD → Prop), I n σ S → (∀ m σ S, m < n → I m σ S → N σ S) → c σ S fun b S1 => if b = true then tb { nx := N, ct := N, bk := E.nx, rt := E.rt, xr := E.xr } σ S1 else E.nx σ S1)
    {n : Nat} {σ : SD} {S : HD} (h : I n σ S) : sWhileD c tb E σ S := by
  refine ⟨n + 1, ?_⟩
  have key : ∀ k n σ S, n < k → I n σ S → whileN c tb E k σ S := by
    intro k
    induction k with
    | zero => intro n σ S hn; exact absurd hn (Nat.not_lt_zero n)
    | succ k ih => intro n σ S hn hI; exact step n σ S _ hI fun m σ S hm h => ih m σ S (by omega) h
  exact key (n + 1) n σ S (Nat.lt_succ_self n) h
def prK (p : Pr) : NestedKey := .tup [.num (p.1 : Nat), .num (p.2 : Nat)]
theorem prD_key (p : Pr) : keyT (prD p) = some (prK p) := rfl
theorem prK_dep (p : Pr) : (prK p).depth ≤ 8 := by
  show max 0 (max 0 0) + 1 ≤ 8
  decide
theorem prK_inj {p q : Pr} (h : prK p = prK q) : p = q := by
  unfold prK at h
  injection h with h
  injection h with h1 h
  injection h with h2 _
  injection h1 with h1
  injection h2 with h2
  exact Prod.ext (by omega) (by omega)
/-- the places of pairs, in the order they are met -/
def plP (n : Nat) : List Pr → List (D × D)
  | [] => []
  | r :: rs => (prD r, .int (n : Nat)) :: plP (n + 1) rs
theorem plP_len : ∀ (rs : List Pr) (n : Nat), (plP n rs).length = rs.length
  | [], _ => rfl
  | r :: rs, n => by simp [plP, plP_len rs (n + 1)]
theorem plP_snoc (s : Pr) : ∀ (rs : List Pr) (n : Nat), plP n (rs ++ [s]) = plP n rs ++ [(prD s, .int ((n + rs.length : Nat) : Int))]
  | [], n => rfl
  | r :: rs, n => by
    show (prD r, D.int (n : Nat)) :: plP (n + 1) (rs ++ [s]) = _
    rw [plP_snoc s rs (n + 1)]
    simp only [List.length_cons]
    rw [show n + 1 + rs.length = n + (rs.length + 1) by omega]
    rfl
theorem getT_P (p : Pr) : ∀ (rs : List Pr) (n : Nat), (getT (plP n rs) (prK p) = none ∧ p ∉ rs) ∨ (getT (plP n rs) (prK p) = some (.int ((n + rs.idxOf p : Nat) : Int)) ∧ p ∈ rs)
  | [], _ => .inl ⟨rfl, fun h => nomatch h⟩
  | r :: rs, n => by
    have hk := keyT_nk (prD_key r)
    by_cases e : r = p
    · subst e
      refine .inr ⟨by simp [plP, getT, hk], List.mem_cons_self⟩
    · have e1 : getT (plP n (r :: rs)) (prK p) = getT (plP (n + 1) rs) (prK p) := by
        simp only [plP, getT, hk]
        exact if_neg fun q => e (prK_inj (Option.some.inj q))
      have e2 : (r :: rs).idxOf p = rs.idxOf p + 1 := by
        rw [List.idxOf_cons]
        have : (r == p) = false := by simpa using e
        rw [this]
        rfl
      rcases getT_P p rs (n + 1) with ⟨h1, h2⟩ | ⟨h1, h2⟩
      · exact .inl ⟨by rw [e1, h1], fun h => (List.mem_cons.mp h).elim (fun z => e z.symm) h2⟩
      · exact .inr ⟨by rw [e1, h1, e2, show n + 1 + rs.idxOf p = n + (rs.idxOf p + 1) by omega], List.mem_cons_of_mem _ h2⟩
theorem t20 {x y : D} : L2.atI [x, y] 0 = some x := rfl
theorem t21 {x y : D} : L2.atI [x, y] 1 = some y := rfl
def spPF : SpD := fun ds S Q => ∃ M N : Cmp, ds = [M.enc, N.enc] ∧ M.Ok ∧ N.Ok ∧ ∀ a b, S.hp a = none → S.hp b = none → a ≠ b → Q (.tup [.ref a, .ref b]) ((S.set a (.lst ((allP M N).map prD))).set b (.lst ((allP M N).map fun p => encR (rowT M N p))))
theorem pf_len (ds : List D) (S : HD) (Q : QD) (h : spPF ds S Q) : ds.length = 2 := by
  obtain ⟨_, _, rfl, _⟩ := h
  rfl
theorem pf_ok (w : World) (ds : List D) (S : HD) (Q : QD) (h : spPF ds S Q) : rd_pairs_from w (ends Q) (pad 7 ds) S := by
  obtain ⟨M, N, rfl, o1, o2, q⟩ := h
  have hsl : (sizeLine : Nat) = 16777216 := rfl
  have n1 := o1.n61
  have n2 := o2.n61
  have nn : M.rows.length * N.rows.length ≤ 61 * 61 := Nat.mul_le_mul n1 n2
  unfold rd_pairs_from
  refine seq_step fun N1 hN1 => ?_
  have k00 : keyT (.tup [.int 0, .int 0]) = some (prK (0, 0)) := rfl
  simp only [Cmp.enc, Cmp.rowsD, Cmp.vsD]
  simp_all only [k00]
  refine ⟨by decide, prK_dep _, fun p1 hp1 => ⟨by decide, by decide, fun p2 hp2 => ⟨by decide, fun p3 hp3 => hN1 _ _ ?_⟩⟩⟩
  clear hN1 N1
  have n21 : p2 ≠ p1 := fun e => by rw [e, HD.set_same] at hp2; cases hp2
  have n31 : p3 ≠ p1 := fun e => by rw [e, HD.set_ne (Ne.symm n21), HD.set_same] at hp3; cases hp3
  have n32 : p3 ≠ p2 := fun e => by rw [e, HD.set_same] at hp3; cases hp3
  have z2 : S.hp p2 = none := by rw [HD.set_ne n21] at hp2; exact hp2
  have z3 : S.hp p3 = none := by rw [HD.set_ne n32, HD.set_ne n31] at hp3; exact hp3
  refine seq_step fun N1 hN1 => ?_
  let I : Nat → SD → HD → Prop := fun m σ S' => ∃ (i : Nat) (v5 v6 : Option D), i ≤ (prs M N i).length ∧ σ = [some (.tup [D.int (M.L : Nat), .tup (M.rows.map encR), .tup (M.vs.map D.int)]), some (.tup [D.int (N.L : Nat), .tup (N.rows.map encR), .tup (N.vs.map D.int)]), some (.ref p1), some (.ref p2), some (.ref p3), v5, v6] ∧
    S'.hp p1 = some (.dct w (plP 0 (prs M N i))) ∧ S'.hp p2 = some (.lst ((prs M N i).map prD)) ∧ S'.hp p3 = some (.lst (((allP M N).take i).map fun p => encR (rowT M N p))) ∧ HLe S S' ∧ m = M.rows.length * N.rows.length - i
  refine while_go I (n := _) (fun m σ S' N' ⟨i, v5, v6, il, e0, g1, g2, g3, up, em⟩ k => ?_) ⟨0, _, _, Nat.zero_le _, rfl, ?_, ?_, HD.set_same, (((HLe.refl S).wr hp1).wr z2).wr z3, rfl⟩
  · rw [HD.set_ne (Ne.symm n31), HD.set_ne (Ne.symm n21), HD.set_same]; rfl
  · rw [HD.set_ne (Ne.symm n32), HD.set_same]; rfl
  · subst e0
    have ln := prs_len o1 o2 i
    have la : (prs M N i).length ≤ (allP M N).length := (prs_all o1 o2 i).length_le
    have lt : ((allP M N).take i).length = i := by rw [List.length_take]; omega
    by_cases hlt : i < (prs M N i).length
    case neg =>
      have hl : decide (((i : Nat) : Int) < (((prs M N i).length : Nat) : Int)) = false := decide_eq_false (by omega)
      have ea : prs M N i = allP M N := allP_of o1 o2 (by omega)
      generalize hB : (sSeqD (sAsgD (tLstR tNilD) (gNameD 5)) _ : TSD) = T1
      simp_all only [g2, g3, List.length_map, lt, hl]
      clear hB T1
      refine hN1 _ _ ?_
      clear hN1 N1
      walk_at "rdx"
      have g2' : S'.hp p2 = some (.lst ((allP M N).map prD)) := by rw [← ea]; exact g2
      have g3' : S'.hp p3 = some (.lst ((allP M N).map fun p => encR (rowT M N p))) := by
        rw [List.take_of_length_le (by rw [← ea]; omega)] at g3
        exact g3
      refine ⟨by decide, fin.le (S := (S.set p2 (.lst ((allP M N).map prD))).set p3 (.lst ((allP M N).map fun p => encR (rowT M N p)))) ⟨fun a u e => ?_, up.c, up.dk⟩ (q p2 p3 z2 z3 (Ne.symm n32))⟩
      by_cases e3 : a = p3
      · rw [e3, HD.set_same] at e; rw [e3, g3']; exact e
      · rw [HD.set_ne e3] at e
        by_cases e2 : a = p2
        · rw [e2, HD.set_same] at e; rw [e2, g2']; exact e
        · rw [HD.set_ne e2] at e; exact up.hp a u e
    have hl : decide (((i : Nat) : Int) < (((prs M N i).length : Nat) : Int)) = true := decide_eq_true (by omega)
    generalize hB : (sSeqD (sAsgD (tLstR tNilD) (gNameD 5)) _ : TSD) = T1
    simp_all only [g2, g3, List.length_map, lt, hl]
    subst hB
    have hp : (prs M N i)[i]? = some (prs M N i)[i] := List.getElem?_eq_getElem hlt
    have hpm := prs_in o1 o2 i _ (List.getElem_mem hlt)
    generalize (prs M N i)[i] = p at hp hpm
    have a1 : L2.atI ((prs M N i).map prD) ((i : Nat) : Int) = some (prD p) := atI_map hp
    have e1 : prs M N (i + 1) = (nxt M N p).foldl addP (prs M N i) := by
      show step M N i (prs M N i) = _
      unfold step
      rw [hp]
    have ea : (allP M N)[i]? = some p := by
      obtain ⟨c, ec⟩ := prs_all o1 o2 i
      rw [← ec, List.getElem?_append_left hlt, hp]
    refine seq_step fun N2 hN2 => ?_
    walk_at "rdx"
    refine ⟨by decide, fun p5 hp5 => hN2 _ _ ?_⟩
    clear hN2 N2
    have n51 : p1 ≠ p5 := fun e => by rw [← e, g1] at hp5; cases hp5
    have n52 : p2 ≠ p5 := fun e => by rw [← e, g2] at hp5; cases hp5
    have n53 : p3 ≠ p5 := fun e => by rw [← e, g3] at hp5; cases hp5
    have z5 : S.hp p5 = none := up.fz hp5
    have r1 := row_at (M := M) hpm.1
    have r2 := row_at (M := N) hpm.2
    have w1 := row_len o1 p.1
    have wn : (nxt M N p).length ≤ 15 := by
      unfold nxt
      rw [List.length_zip]
      omega
    have zz : zipD ((row M p.1).map fun t => D.int (t : Nat)) ((row N p.2).map fun t => D.int (t : Nat)) = (nxt M N p).map prD := zip_prD _ _
    have b1 : (S'.set p5 (.lst [])).hp p1 = some (.dct w (plP 0 (prs M N i))) := by rw [HD.set_ne n51]; exact g1
    have b2 : (S'.set p5 (.lst [])).hp p2 = some (.lst ((prs M N i).map prD)) := by rw [HD.set_ne n52]; exact g2
    have b3 : (S'.set p5 (.lst [])).hp p3 = some (.lst (((allP M N).take i).map fun p => encR (rowT M N p))) := by rw [HD.set_ne n53]; exact g3
    have b5 : (S'.set p5 (.lst [])).hp p5 = some (.lst []) := HD.set_same
    have u5 : HLe S (S'.set p5 (.lst [])) := up.wr z5
    generalize S'.set p5 (.lst []) = S5 at b1 b2 b3 b5 u5
    refine seq_step fun N2 hN2 => ?_
    generalize hC : (sSeqD (sIfD (tTst (tBin (rInW w true) _ _)) _ _) _ : TSD) = C1
    generalize hg : gNameD 6 = g0
    have a1 : L2.atI ((prs M N i).map prD) ((i : Nat) : Int) = some (.tup [.int (p.1 : Nat), .int (p.2 : Nat)]) := a1
    simp_all only [en1, b2, b3, List.length_map, lt, a1, t20, t21, r1, r2, zz]
    refine loopD_go (fun j σ S2 => (∃ v6, σ = [some (.tup [D.int (M.L : Nat), .tup (M.rows.map encR), .tup (M.vs.map D.int)]), some (.tup [D.int (N.L : Nat), .tup (N.rows.map encR), .tup (N.vs.map D.int)]), some (.ref p1), some (.ref p2), some (.ref p3), some (.ref p5), v6]) ∧
        S2.hp p1 = some (.dct w (plP 0 (((nxt M N p).take j).foldl addP (prs M N i)))) ∧ S2.hp p2 = some (.lst ((((nxt M N p).take j).foldl addP (prs M N i)).map prD)) ∧ S2.hp p3 = some (.lst (((allP M N).take i).map fun p => encR (rowT M N p))) ∧
        S2.hp p5 = some (.lst (((nxt M N p).take j).map fun c => D.int ((allP M N).idxOf c : Nat))) ∧ HLe S S2)
      ⟨⟨_, rfl⟩, b1, b2, b3, b5, u5⟩ (fun j d σ S2 N3 hj ⟨⟨v6, e2⟩, k1, k2, k3, k5, up2⟩ kk => ⟨trivial, ?_⟩) (fun σ S2 ⟨⟨v6, e2⟩, k1, k2, k3, k5, up2⟩ => ⟨trivial, ?_⟩)
    · subst e2
      rw [List.getElem?_map] at hj
      obtain ⟨c, hc, rfl⟩ := Option.map_eq_some_iff.mp hj
      have hpre := fold_take (nxt M N p) (prs M N i) (j + 1)
      rw [← e1] at hpre
      have snoc := fold_snoc hc (prs M N i)
      have cm : c ∈ ((nxt M N p).take (j + 1)).foldl addP (prs M N i) := by rw [snoc]; exact addP_mem _ _
      have ie : (((nxt M N p).take (j + 1)).foldl addP (prs M N i)).idxOf c = (allP M N).idxOf c := (idx_pre (hpre.trans (prs_all o1 o2 (i + 1))) cm).symm
      have lc := hpre.length_le
      have lc2 := prs_len o1 o2 (i + 1)
      rw [snoc] at ie lc cm
      have t5 : (nxt M N p).take (j + 1) = (nxt M N p).take j ++ [c] := by rw [List.take_add_one, hc]; rfl
      have done : ∀ σ S3, (∃ v6, σ = [some (.tup [D.int (M.L : Nat), .tup (M.rows.map encR), .tup (M.vs.map D.int)]), some (.tup [D.int (N.L : Nat), .tup (N.rows.map encR), .tup (N.vs.map D.int)]), some (.ref p1), some (.ref p2), some (.ref p3), some (.ref p5), v6]) →
          S3.hp p1 = some (.dct w (plP 0 (addP (((nxt M N p).take j).foldl addP (prs M N i)) c))) → S3.hp p2 = some (.lst ((addP (((nxt M N p).take j).foldl addP (prs M N i)) c).map prD)) → S3.hp p3 = some (.lst (((allP M N).take i).map fun p => encR (rowT M N p))) →
          S3.hp p5 = some (.lst (((nxt M N p).take j).map (fun c => D.int ((allP M N).idxOf c : Nat)) ++ [.int ((allP M N).idxOf c : Nat)])) → HLe S S3 → N3 σ S3 := fun σ S3 h0 h1 h2 h3 h5 h6 =>
        kk σ S3 ⟨h0, by rw [snoc]; exact h1, by rw [snoc]; exact h2, h3, by rw [t5, List.map_append]; exact h5, h6⟩
      have kc := prD_key c
      have kd := prK_dep c
      have gt := getT_P c (((nxt M N p).take j).foldl addP (prs M N i)) 0
      generalize ((nxt M N p).take j).foldl addP (prs M N i) = cur at k1 k2 gt ie lc cm done
      subst hg
      walk_at "rdx"
      subst hC
      refine seq_step fun N4 hN4 => ?_
      have lj : ((nxt M N p).take j).length ≤ 15 := by rw [List.length_take]; omega
      have last : ∀ S6, S6.hp p1 = some (.dct w (plP 0 (addP cur c))) → S6.hp p2 = some (.lst ((addP cur c).map prD)) → S6.hp p3 = some (.lst (((allP M N).take i).map fun p => encR (rowT M N p))) →
          S6.hp p5 = some (.lst (((nxt M N p).take j).map (fun c => D.int ((allP M N).idxOf c : Nat)))) → HLe S S6 → N4 [some (.tup [D.int (M.L : Nat), .tup (M.rows.map encR), .tup (M.vs.map D.int)]), some (.tup [D.int (N.L : Nat), .tup (N.rows.map encR), .tup (N.vs.map D.int)]), some (.ref p1), some (.ref p2), some (.ref p3), some (.ref p5), some (prD c)] S6 := fun S6 c1 c2 c3 c5 c6 => by
        refine hN4 _ _ ?_
        have y : getT (plP 0 (addP cur c)) (prK c) = some (.int ((allP M N).idxOf c : Nat)) := by
          rcases getT_P c (addP cur c) 0 with ⟨_, no⟩ | ⟨y, _⟩
          · exact (no cm).elim
          · rw [y, Nat.zero_add, ie]
        clear hN4 gt
        have d2 := done [some (.tup [D.int (M.L : Nat), .tup (M.rows.map encR), .tup (M.vs.map D.int)]), some (.tup [D.int (N.L : Nat), .tup (N.rows.map encR), .tup (N.vs.map D.int)]), some (.ref p1), some (.ref p2), some (.ref p3), some (.ref p5), some (prD c)] (S6.set p5 (.lst (((nxt M N p).take j).map (fun c => D.int ((allP M N).idxOf c : Nat)) ++ [.int ((allP M N).idxOf c : Nat)])))
          ⟨_, rfl⟩ (by rw [HD.set_ne n51]; exact c1) (by rw [HD.set_ne n52]; exact c2) (by rw [HD.set_ne n53]; exact c3) HD.set_same (c6.wr z5)
        have lj2 : ((nxt M N p).take j).length < 16000000 := by omega
        clear done
        simp_all only [c1, c5, kc, y, List.length_map]
        exact ⟨⟨_, rfl⟩, kd, lj2, d2⟩
      rcases gt with ⟨y1, y2⟩ | ⟨y1, y2⟩
      · have hh : hasT (plP 0 cur) (prK c) = false := by unfold hasT; rw [y1]; rfl
        have hput : putT (plP 0 cur) (prD c) (prK c) (.int (cur.length : Nat)) = plP 0 (cur ++ [c]) := by
          unfold putT
          rw [hh, plP_snoc, Nat.zero_add]
          rfl
        have w2 : (S2.set p1 (.dct w (plP 0 (cur ++ [c])))).hp p2 = some (.lst (cur.map prD)) := by rw [HD.set_ne n21]; exact k2
        have ad : addP cur c = cur ++ [c] := by unfold addP; rw [if_neg y2]
        rw [ad] at last lc
        rw [List.length_append] at lc
        have lc3 : cur.length < 16000000 := by omega
        clear hN4 done ie cm snoc
        simp_all only [k1, k2, kc, hh, plP_len, List.length_map, hput, w2]
        refine ⟨kd, kd, lc3, ⟨_, rfl⟩, lc3, last _ ?_ ?_ ?_ ?_ ((up2.wr hp1).wr z2)⟩
        · rw [HD.set_ne (Ne.symm n21), HD.set_same]
        · rw [HD.set_same, List.map_append]; rfl
        · rw [HD.set_ne n32, HD.set_ne n31]; exact k3
        · rw [HD.set_ne (Ne.symm n52), HD.set_ne (Ne.symm n51)]; exact k5
      · have hh : hasT (plP 0 cur) (prK c) = true := by unfold hasT; rw [y1]; rfl
        have ad : addP cur c = cur := by unfold addP; rw [if_pos y2]
        rw [ad] at last
        clear hN4 done ie cm snoc
        have l4 := last S2 k1 k2 k3 k5 up2
        simp_all only [k1, k2, kc, hh, plP_len, List.length_map]
        exact ⟨kd, l4⟩
    · subst e2
      rw [List.length_map, List.take_length] at k1 k2 k5
      rw [← e1] at k1 k2
      clear hC hg
      refine hN2 _ _ ?_
      clear hN2 N2
      have l1 : (prs M N i).length ≤ (prs M N (i + 1)).length := (step_pre M N i _).length_le
      simp_all only [k3, k5]
      refine ⟨⟨_, rfl⟩, by rw [List.length_map]; omega, k (M.rows.length * N.rows.length - (i + 1)) _ _ (by omega) ⟨i + 1, _, _, by omega, rfl, by rw [HD.set_ne (Ne.symm n31)]; exact k1, by rw [HD.set_ne (Ne.symm n32)]; exact k2, ?_, up2.wr z3, rfl⟩⟩
      rw [HD.set_same, List.take_add_one, ea, List.map_append]
      have er : encR (rowT M N p) = D.tup ((nxt M N p).map fun c => D.int ((allP M N).idxOf c : Nat)) := by
        unfold encR rowT
        rw [List.map_map]
        rfl
      simp only [Option.toList_some, List.map_cons, List.map_nil, er]
end K37
end

section
/-! P37h: one comparison behind another, as it is told. -/
namespace K37
open PySem PySem.Spec PyProof.Rows PD
local macro_rules | `(tactic| walk_at "rdx") => `(tactic| simp only [PD.pad, PD.gt_z, PD.gt_s, PD.st_z, PD.st_s, PD.sNextD, PD.sSeqD, PD.sBreakD, PD.sContD, PD.sDropD, PD.sRetD, PD.sRetND, PD.sIfD, PD.sNeverD, PD.sAsgD, PD.sPar2, PD.sPar3, PD.gNameD, PD.gNilD, PD.gConsD, PD.gTupD, PD.gSubD, PD.tNilD, PD.tConsD, PD.tTupD, PD.tLstV, PD.tLstR, PD.tBin, PD.tTst, PD.tAndD, PD.tOrD, PD.tNotD, PD.tIfD, PD.tAndV, PD.tOrV, PD.tNotV, PD.tUnD, PD.rNeg, PD.tCallD, PD.tSlot, PD.tCD, PD.tChainD, PD.rIsN, PD.rNotN, PD.rIsiD, PD.isi_non, PD.isi_bl, PD.isi_int, PD.isi_str, PD.isi_tup, PD.isi_lst, PD.isi_dic, PD.Ty.name, PD.rCmpI, PD.fLt, PD.fLe, PD.fGt, PD.fGe, PD.rAddD, PD.rSubD, PD.rFdivD, PD.rModD, PD.rPowD, PD.rMulD, PD.rAddR, PD.rMulR, PD.asSeq, PD.asLst, PD.rLenD, PD.rTupleD, PD.rListV, PD.rListR, PD.rIntD, PD.rBoolD, PD.rAbsD, PD.rIxD, PD.oNone, PD.oSome, PD.tSlD, PD.rSlD, PD.tRevTD, PD.rEqD, PD.rNeD, PD.nrm_non, PD.nrm_bl, PD.nrm_int, PD.nrm_str, PD.nrm_tup, PD.nrm_lst, PD.nrm_dic, PD.nrm_ref, PD.iSeqD, PD.iRng1D, PD.iRng2D, PD.sForD, PD.tLcV, PD.tLcR, PD.tYesD, PD.wipeD, PD.tMethL, PD.rAppD, PD.isRefL, PD.tDicV, PD.keyOf, PD.asDic, PD.srcD, PD.iAnyD, PD.iZipD, PD.iEnumD, PD.tDcV, PD.tDicR, PD.gSubX, PD.rSetX, PD.rIxX, PD.rInD, PD.rInX, PD.rInY, PD.rInZ, PD.rSumD, PD.tRevLD, PD.tRevX, PD.rSixD, PD.rJoinD, PD.tMethS, PD.rLixD, PD.rPopD, PD.rExtD, PD.tMethA, PD.rSetD, PD.rReprD, PD.eqk_int, PD.eqd_int, PD.eqk_str, PD.eqd_str, PD.eqk_lst0, PD.eqd_lst0, PD.eqk_tup0, PD.eqd_tup0, PD.tdOf, PD.rInW, PD.rIxW, PD.rSetW, PD.gSubW, PD.rLenW, PD.rGetW, PD.rGetAt, PD.tMethW, PD.rSetdW, PD.tDispR, PD.tPairsD, PD.putAll, PD.tDisp1T, PD.gSeqD, PD.rListW, PD.tLenSetD, PD.tFldD, PD.fldD, PD.tMethC, PD.methD, PD.tMakeD, PD.sFldD, PD.tMethB, PD.rLjD, PD.tCallX, PD.sRetX, PD.sRaiseD, PD.sTryD, PD.hdlD, PD.noX, PD.rExtX, PD.rTupleX, PD.gUnpD, PD.tDictZ, PD.rInP, PD.rLixP, PD.tCallE, PD.tNilL, PD.tConsL, PD.tLamL, PD.tCallL, PD.tDispV, Option.map_some, Option.bind_some, PD.spFn, PD.spDraw, reduceIte, true_and, and_true, or_false, false_or, Bool.not_true, Bool.not_false, Bool.false_eq_true, List.length_cons, List.length_nil, List.set_cons_zero, List.set_cons_succ, PD.HD.set_same, PD.HD.tick_hp, PD.HD.tick_c, PD.HD.tick_dk, PD.HD.set_c, PD.HD.set_dk])
local macro_rules | `(tactic| simp_all only [$xs,*]) => `(tactic| simp only [PD.pad, PD.gt_z, PD.gt_s, PD.st_z, PD.st_s, PD.sNextD, PD.sSeqD, PD.sBreakD, PD.sContD, PD.sDropD, PD.sRetD, PD.sRetND, PD.sIfD, PD.sNeverD, PD.sAsgD, PD.sPar2, PD.sPar3, PD.gNameD, PD.gNilD, PD.gConsD, PD.gTupD, PD.gSubD, PD.tNilD, PD.tConsD, PD.tTupD, PD.tLstV, PD.tLstR, PD.tBin, PD.tTst, PD.tAndD, PD.tOrD, PD.tNotD, PD.tIfD, PD.tAndV, PD.tOrV, PD.tNotV, PD.tUnD, PD.rNeg, PD.tCallD, PD.tSlot, PD.tCD, PD.tChainD, PD.rIsN, PD.rNotN, PD.rIsiD, PD.isi_non, PD.isi_bl, PD.isi_int, PD.isi_str, PD.isi_tup, PD.isi_lst, PD.isi_dic, PD.Ty.name, PD.rCmpI, PD.fLt, PD.fLe, PD.fGt, PD.fGe, PD.rAddD, PD.rSubD, PD.rFdivD, PD.rModD, PD.rPowD, PD.rMulD, PD.rAddR, PD.rMulR, PD.asSeq, PD.asLst, PD.rLenD, PD.rTupleD, PD.rListV, PD.rListR, PD.rIntD, PD.rBoolD, PD.rAbsD, PD.rIxD, PD.oNone, PD.oSome, PD.tSlD, PD.rSlD, PD.tRevTD, PD.rEqD, PD.rNeD, PD.nrm_non, PD.nrm_bl, PD.nrm_int, PD.nrm_str, PD.nrm_tup, PD.nrm_lst, PD.nrm_dic, PD.nrm_ref, PD.iSeqD, PD.iRng1D, PD.iRng2D, PD.sForD, PD.tLcV, PD.tLcR, PD.tYesD, PD.wipeD, PD.tMethL, PD.rAppD, PD.isRefL, PD.tDicV, PD.keyOf, PD.asDic, PD.srcD, PD.iAnyD, PD.iZipD, PD.iEnumD, PD.tDcV, PD.tDicR, PD.gSubX, PD.rSetX, PD.rIxX, PD.rInD, PD.rInX, PD.rInY, PD.rInZ, PD.rSumD, PD.tRevLD, PD.tRevX, PD.rSixD, PD.rJoinD, PD.tMethS, PD.rLixD, PD.rPopD, PD.rExtD, PD.tMethA, PD.rSetD, PD.rReprD, PD.eqk_int, PD.eqd_int, PD.eqk_str, PD.eqd_str, PD.eqk_lst0, PD.eqd_lst0, PD.eqk_tup0, PD.eqd_tup0, PD.tdOf, PD.rInW, PD.rIxW, PD.rSetW, PD.gSubW, PD.rLenW, PD.rGetW, PD.rGetAt, PD.tMethW, PD.rSetdW, PD.tDispR, PD.tPairsD, PD.putAll, PD.tDisp1T, PD.gSeqD, PD.rListW, PD.tLenSetD, PD.tFldD, PD.fldD, PD.tMethC, PD.methD, PD.tMakeD, PD.sFldD, PD.tMethB, PD.rLjD, PD.tCallX, PD.sRetX, PD.sRaiseD, PD.sTryD, PD.hdlD, PD.noX, PD.rExtX, PD.rTupleX, PD.gUnpD, PD.tDictZ, PD.rInP, PD.rLixP, PD.tCallE, PD.tNilL, PD.tConsL, PD.tLamL, PD.tCallL, PD.tDispV, Option.map_some, Option.bind_some, PD.spFn, PD.spDraw, reduceIte, true_and, and_true, or_false, false_or, Bool.not_true, Bool.not_false, Bool.false_eq_true, List.length_cons, List.length_nil, List.set_cons_zero, List.set_cons_succ, PD.HD.set_same, PD.HD.tick_hp, PD.HD.tick_c, PD.HD.tick_dk, PD.HD.set_c, PD.HD.set_dk, $xs,*])
def spThen (E1 E2 : Addr) : SpX := fun ds S Q Y => ∃ M N : Cmp, ds = [M.enc, N.enc] ∧ M.Ok ∧ N.Ok ∧ (if M.L = N.L then (if (allP M N).length ≤ 60 then Q (thenC M N).enc S else Y E1 S) else Y E2 S)
theorem then_len {E1 E2 : Addr} (ds : List D) (S : HD) (Q : QD) (Y : XD) (h : spThen E1 E2 ds S Q Y) : ds.length = 2 := by
  obtain ⟨_, _, rfl, _⟩ := h
  rfl
theorem then_ok {E1 E2 : Addr} (ds : List D) (S : HD) (Qd : QD) (Xd : XD) (h : spThen E1 E2 ds S Qd Xd) : rd_then E2 E1 spPF { nx := fun _ S2 => fin Qd .non S2, rt := fin Qd, xr := fun C _ S2 => finX Xd C S2 } (pad 7 ds) S := by
  obtain ⟨M, N, rfl, o1, o2, q⟩ := h
  have hsl : (sizeLine : Nat) = 16777216 := rfl
  have n1 := o1.n61
  have n2 := o2.n61
  have nn : M.rows.length * N.rows.length ≤ 61 * 61 := Nat.mul_le_mul n1 n2
  have la : (allP M N).length ≤ M.rows.length * N.rows.length := prs_len o1 o2 _
  unfold rd_then
  refine seq_step fun N1 hN1 => ?_
  simp only [Cmp.enc, Cmp.rowsD, Cmp.vsD]
  walk_at "rdx"
  simp only [en0, nrm_int, eqk_int, eqd_int, true_and]
  by_cases hL : M.L = N.L
  · rw [if_pos hL] at q
    have hL' : decide (((M.L : Nat) : Int) = ((N.L : Nat) : Int)) = true := decide_eq_true (by omega)
    simp only [hL', Bool.not_true, Bool.false_eq_true, if_false]
    refine hN1 _ _ ?_
    clear hN1 N1
    refine seq_step fun N1 hN1 => ?_
    walk_at "rdx"
    refine ⟨M, N, rfl, o1, o2, fun a b ha hb ne => ⟨rfl, rfl, hN1 _ _ ?_⟩⟩
    clear hN1 N1
    have g2 : ((S.set a (.lst ((allP M N).map prD))).set b (.lst ((allP M N).map fun p => encR (rowT M N p)))).hp a = some (.lst ((allP M N).map prD)) := by rw [HD.set_ne ne, HD.set_same]
    have g3 : ((S.set a (.lst ((allP M N).map prD))).set b (.lst ((allP M N).map fun p => encR (rowT M N p)))).hp b = some (.lst ((allP M N).map fun p => encR (rowT M N p))) := HD.set_same
    have up : HLe S ((S.set a (.lst ((allP M N).map prD))).set b (.lst ((allP M N).map fun p => encR (rowT M N p)))) := ((HLe.refl S).wr ha).wr hb
    generalize ((S.set a (.lst ((allP M N).map prD))).set b (.lst ((allP M N).map fun p => encR (rowT M N p)))) = S' at g2 g3 up
    refine seq_step fun N1 hN1 => ?_
    walk_at "rdx"
    simp only [g2, List.length_map]
    by_cases h60 : (allP M N).length ≤ 60
    · rw [if_pos h60] at q
      have hd : decide ((60 : Int) < (((allP M N).length : Nat) : Int)) = false := decide_eq_false (by omega)
      simp only [hd, Bool.false_eq_true, if_false]
      refine hN1 _ _ ?_
      clear hN1 N1
      refine seq_step fun N1 hN1 => ?_
      generalize hT : (tIfD _ _ _ : TED) = T0
      generalize hg : (gTupD 2 _ : TGD) = g0
      walk_at "rdx"
      rw [g2]
      dsimp only
      subst hg
      refine fun hz => ⟨by rw [List.length_map]; omega, ?_⟩
      refine lcD_pure (fun d => match d with
        | .tup [.int a, .int b] => some (.int (verT M N (a.toNat, b.toNat)))
        | _ => none) g2 _ [] (fun d hd Q1 Q0 h => ?_) ?_
      · obtain ⟨p, hp, rfl⟩ := List.mem_map.mp hd
        have hpm := prs_in o1 o2 _ p hp
        subst hT
        simp only [prD] at h ⊢
        walk_at "rdx"
        simp only [en2, ver_at o1 hpm.1, ver_at o2 hpm.2, nrm_int, eqk_int, eqd_int]
        unfold verT at h
        simp only [Int.toNat_natCast] at h
        refine ⟨trivial, ?_⟩
        by_cases e : M.ver p.1 = 0
        · simpa [e] using h
        · simpa [e] using h
      · refine hN1 _ _ ?_
        clear hN1 N1
        have fm : ((allP M N).map prD).filterMap (fun d => match d with
          | .tup [.int a, .int b] => some (D.int (verT M N (a.toNat, b.toNat)))
          | _ => none) = (allP M N).map fun p => D.int (verT M N p) := fm_map (f := prD) fun p hp => rfl
        rw [List.nil_append, fm]
        walk_at "rdx"
        simp only [en0, g3]
        have ee : (thenC M N).enc = .tup [.int (M.L : Nat), .tup ((allP M N).map fun p => encR (rowT M N p)), .tup ((allP M N).map fun p => D.int (verT M N p))] := by
          unfold thenC Cmp.enc Cmp.rowsD Cmp.vsD
          rw [List.map_map, List.map_map]
          rfl
        rw [← ee]
        exact ⟨by decide, fin.le up q⟩
    · rw [if_neg h60] at q
      have hd : decide ((60 : Int) < (((allP M N).length : Nat) : Int)) = true := decide_eq_true (by omega)
      simp only [hd, if_true]
      exact finX.le up q
  · rw [if_neg hL] at q
    have hL' : ¬ ((M.L : Nat) : Int) = ((N.L : Nat) : Int) := by omega
    simp only [hL', decide_false, Bool.not_false, if_true]
    exact finX.le (.refl S) q
/-! ### told, due -/
def toldD (M N : Cmp) : D := if M.L = N.L then (if (allP M N).length ≤ 60 then (thenC M N).enc else .str "great") else .str "unlike"
def spTold : SpD := fun ds S Q => ∃ M N : Cmp, ds = [M.enc, N.enc] ∧ M.Ok ∧ N.Ok ∧ Q (toldD M N) S
theorem told_len (ds : List D) (S : HD) (Q : QD) (h : spTold ds S Q) : ds.length = 2 := by
  obtain ⟨_, _, rfl, _⟩ := h
  rfl
theorem told_ok {E1 E2 : Addr} {xm : Addr → Addr → Option Bool} (m22 : xm E2 E2 = some true) (m12 : xm E1 E2 = some false) (m11 : xm E1 E1 = some true) (ds : List D) (S : HD) (Q : QD) (h : spTold ds S Q) : rd__law_told E1 E2 xm (spThen E1 E2) (ends Q) (pad 2 ds) S := by
  obtain ⟨M, N, rfl, o1, o2, q⟩ := h
  have q' := fin.here q
  unfold rd__law_told
  walk_at "rdx"
  refine ⟨M, N, rfl, o1, o2, ?_⟩
  unfold toldD at q'
  by_cases hL : M.L = N.L
  · simp only [hL, if_true] at q' ⊢
    by_cases h60 : (allP M N).length ≤ 60
    · simp only [h60, if_true] at q' ⊢
      exact q'
    · simp only [h60, if_false, m12, m11] at q' ⊢
      exact q'
  · simp only [hL, if_false, m22] at q' ⊢
    exact q'
theorem due_ok (ds : List D) (S : HD) (Q : QD) (h : spTold ds S Q) : rd__law_due spLThen (ends Q) (pad 3 ds) S := by
  obtain ⟨M, N, rfl, o1, o2, q⟩ := h
  have hsl : (sizeLine : Nat) = 16777216 := rfl
  have q' := fin.here q
  clear q
  unfold toldD at q'
  unfold rd__law_due
  refine seq_step fun N1 hN1 => ?_
  simp only [Cmp.enc, Cmp.rowsD, Cmp.vsD]
  walk_at "rdx"
  simp only [en0, nrm_int, eqk_int, eqd_int, true_and]
  by_cases hL : M.L = N.L
  · rw [if_pos hL] at q'
    have hL' : decide (((M.L : Nat) : Int) = ((N.L : Nat) : Int)) = true := decide_eq_true (by omega)
    simp only [hL', Bool.not_true, Bool.false_eq_true, if_false]
    refine hN1 _ _ ?_
    clear hN1 N1
    refine seq_step fun N1 hN1 => ?_
    walk_at "rdx"
    refine ⟨M, N, rfl, o1, o2, hN1 _ _ ?_⟩
    clear hN1 N1
    have e1 : (thenC M N).enc = .tup [.int (M.L : Nat), .tup ((thenC M N).rows.map encR), .tup ((thenC M N).vs.map D.int)] := rfl
    have el : (thenC M N).rows.length = (allP M N).length := by unfold thenC; rw [List.length_map]
    rw [e1] at q' ⊢
    walk_at "rdx"
    have e2 : L2.atI [D.int (M.L : Nat), .tup ((thenC M N).rows.map encR), .tup ((thenC M N).vs.map D.int)] 1 = some (.tup ((thenC M N).rows.map encR)) := rfl
    simp only [e2, List.length_map, el]
    by_cases h60 : (allP M N).length ≤ 60
    · rw [if_pos h60] at q'
      have hd : decide ((((allP M N).length : Nat) : Int) ≤ 60) = true := decide_eq_true (by omega)
      simp only [hd, if_true]
      exact q'
    · rw [if_neg h60] at q'
      have hd : decide ((((allP M N).length : Nat) : Int) ≤ 60) = false := decide_eq_false (by omega)
      simp only [hd, Bool.false_eq_true, if_false]
      exact q'
  · rw [if_neg hL] at q'
    have hL' : decide (((M.L : Nat) : Int) = ((N.L : Nat) : Int)) = false := decide_eq_false (by omega)
    simp only [hL', Bool.not_false, if_true]
    exact q'
end K37
end

section
/-! P37i: drawn orders. -/
namespace K37
open PySem PySem.Spec PyProof.Rows PD
local macro_rules | `(tactic| walk_at "rdx") => `(tactic| simp only [PD.pad, PD.gt_z, PD.gt_s, PD.st_z, PD.st_s, PD.sNextD, PD.sSeqD, PD.sBreakD, PD.sContD, PD.sDropD, PD.sRetD, PD.sRetND, PD.sIfD, PD.sNeverD, PD.sAsgD, PD.sPar2, PD.sPar3, PD.gNameD, PD.gNilD, PD.gConsD, PD.gTupD, PD.gSubD, PD.tNilD, PD.tConsD, PD.tTupD, PD.tLstV, PD.tLstR, PD.tBin, PD.tTst, PD.tAndD, PD.tOrD, PD.tNotD, PD.tIfD, PD.tAndV, PD.tOrV, PD.tNotV, PD.tUnD, PD.rNeg, PD.tCallD, PD.tSlot, PD.tCD, PD.tChainD, PD.rIsN, PD.rNotN, PD.rIsiD, PD.isi_non, PD.isi_bl, PD.isi_int, PD.isi_str, PD.isi_tup, PD.isi_lst, PD.isi_dic, PD.Ty.name, PD.rCmpI, PD.fLt, PD.fLe, PD.fGt, PD.fGe, PD.rAddD, PD.rSubD, PD.rFdivD, PD.rModD, PD.rPowD, PD.rMulD, PD.rAddR, PD.rMulR, PD.asSeq, PD.asLst, PD.rLenD, PD.rTupleD, PD.rListV, PD.rListR, PD.rIntD, PD.rBoolD, PD.rAbsD, PD.rIxD, PD.oNone, PD.oSome, PD.tSlD, PD.rSlD, PD.tRevTD, PD.rEqD, PD.rNeD, PD.nrm_non, PD.nrm_bl, PD.nrm_int, PD.nrm_str, PD.nrm_tup, PD.nrm_lst, PD.nrm_dic, PD.nrm_ref, PD.iSeqD, PD.iRng1D, PD.iRng2D, PD.sForD, PD.tLcV, PD.tLcR, PD.tYesD, PD.wipeD, PD.tMethL, PD.rAppD, PD.isRefL, PD.tDicV, PD.keyOf, PD.asDic, PD.srcD, PD.iAnyD, PD.iZipD, PD.iEnumD, PD.tDcV, PD.tDicR, PD.gSubX, PD.rSetX, PD.rIxX, PD.rInD, PD.rInX, PD.rInY, PD.rInZ, PD.rSumD, PD.tRevLD, PD.tRevX, PD.rSixD, PD.rJoinD, PD.tMethS, PD.rLixD, PD.rPopD, PD.rExtD, PD.tMethA, PD.rSetD, PD.rReprD, PD.eqk_int, PD.eqd_int, PD.eqk_str, PD.eqd_str, PD.eqk_lst0, PD.eqd_lst0, PD.eqk_tup0, PD.eqd_tup0, PD.tdOf, PD.rInW, PD.rIxW, PD.rSetW, PD.gSubW, PD.rLenW, PD.rGetW, PD.rGetAt, PD.tMethW, PD.rSetdW, PD.tDispR, PD.tPairsD, PD.putAll, PD.tDisp1T, PD.gSeqD, PD.rListW, PD.tLenSetD, PD.tFldD, PD.fldD, PD.tMethC, PD.methD, PD.tMakeD, PD.sFldD, PD.tMethB, PD.rLjD, PD.tCallX, PD.sRetX, PD.sRaiseD, PD.sTryD, PD.hdlD, PD.noX, PD.rExtX, PD.rTupleX, PD.gUnpD, PD.tDictZ, PD.rInP, PD.rLixP, PD.tCallE, PD.tNilL, PD.tConsL, PD.tLamL, PD.tCallL, PD.tDispV, Option.map_some, Option.bind_some, PD.spFn, PD.spDraw, reduceIte, true_and, and_true, or_false, false_or, Bool.not_true, Bool.not_false, Bool.false_eq_true, List.length_cons, List.length_nil, List.set_cons_zero, List.set_cons_succ, PD.HD.set_same, PD.HD.tick_hp, PD.HD.tick_c, PD.HD.tick_dk, PD.HD.set_c, PD.HD.set_dk])
local macro_rules | `(tactic| simp_all only [$xs,*]) => `(tactic| simp only [PD.pad, PD.gt_z, PD.gt_s, PD.st_z, PD.st_s, PD.sNextD, PD.sSeqD, PD.sBreakD, PD.sContD, PD.sDropD, PD.sRetD, PD.sRetND, PD.sIfD, PD.sNeverD, PD.sAsgD, PD.sPar2, PD.sPar3, PD.gNameD, PD.gNilD, PD.gConsD, PD.gTupD, PD.gSubD, PD.tNilD, PD.tConsD, PD.tTupD, PD.tLstV, PD.tLstR, PD.tBin, PD.tTst, PD.tAndD, PD.tOrD, PD.tNotD, PD.tIfD, PD.tAndV, PD.tOrV, PD.tNotV, PD.tUnD, PD.rNeg, PD.tCallD, PD.tSlot, PD.tCD, PD.tChainD, PD.rIsN, PD.rNotN, PD.rIsiD, PD.isi_non, PD.isi_bl, PD.isi_int, PD.isi_str, PD.isi_tup, PD.isi_lst, PD.isi_dic, PD.Ty.name, PD.rCmpI, PD.fLt, PD.fLe, PD.fGt, PD.fGe, PD.rAddD, PD.rSubD, PD.rFdivD, PD.rModD, PD.rPowD, PD.rMulD, PD.rAddR, PD.rMulR, PD.asSeq, PD.asLst, PD.rLenD, PD.rTupleD, PD.rListV, PD.rListR, PD.rIntD, PD.rBoolD, PD.rAbsD, PD.rIxD, PD.oNone, PD.oSome, PD.tSlD, PD.rSlD, PD.tRevTD, PD.rEqD, PD.rNeD, PD.nrm_non, PD.nrm_bl, PD.nrm_int, PD.nrm_str, PD.nrm_tup, PD.nrm_lst, PD.nrm_dic, PD.nrm_ref, PD.iSeqD, PD.iRng1D, PD.iRng2D, PD.sForD, PD.tLcV, PD.tLcR, PD.tYesD, PD.wipeD, PD.tMethL, PD.rAppD, PD.isRefL, PD.tDicV, PD.keyOf, PD.asDic, PD.srcD, PD.iAnyD, PD.iZipD, PD.iEnumD, PD.tDcV, PD.tDicR, PD.gSubX, PD.rSetX, PD.rIxX, PD.rInD, PD.rInX, PD.rInY, PD.rInZ, PD.rSumD, PD.tRevLD, PD.tRevX, PD.rSixD, PD.rJoinD, PD.tMethS, PD.rLixD, PD.rPopD, PD.rExtD, PD.tMethA, PD.rSetD, PD.rReprD, PD.eqk_int, PD.eqd_int, PD.eqk_str, PD.eqd_str, PD.eqk_lst0, PD.eqd_lst0, PD.eqk_tup0, PD.eqd_tup0, PD.tdOf, PD.rInW, PD.rIxW, PD.rSetW, PD.gSubW, PD.rLenW, PD.rGetW, PD.rGetAt, PD.tMethW, PD.rSetdW, PD.tDispR, PD.tPairsD, PD.putAll, PD.tDisp1T, PD.gSeqD, PD.rListW, PD.tLenSetD, PD.tFldD, PD.fldD, PD.tMethC, PD.methD, PD.tMakeD, PD.sFldD, PD.tMethB, PD.rLjD, PD.tCallX, PD.sRetX, PD.sRaiseD, PD.sTryD, PD.hdlD, PD.noX, PD.rExtX, PD.rTupleX, PD.gUnpD, PD.tDictZ, PD.rInP, PD.rLixP, PD.tCallE, PD.tNilL, PD.tConsL, PD.tLamL, PD.tCallL, PD.tDispV, Option.map_some, Option.bind_some, PD.spFn, PD.spDraw, reduceIte, true_and, and_true, or_false, false_or, Bool.not_true, Bool.not_false, Bool.false_eq_true, List.length_cons, List.length_nil, List.set_cons_zero, List.set_cons_succ, PD.HD.set_same, PD.HD.tick_hp, PD.HD.tick_c, PD.HD.tick_dk, PD.HD.set_c, PD.HD.set_dk, $xs,*])
theorem Cmp.ver_b {M : Cmp} (ok : M.Ok) (s : Nat) : -1 ≤ M.ver s ∧ M.ver s ≤ 1 := by
  unfold Cmp.ver
  cases e : M.vs[s]? with
  | none => exact ⟨by decide, by decide⟩
  | some v => exact ok.vb v (List.mem_of_getElem? e)
theorem row_wd {M : Cmp} (ok : M.Ok) {s : Nat} (h : s < M.rows.length) : (row M s).length = (cols M.L).length := by
  unfold row
  rw [List.getElem?_eq_getElem h]
  exact ok.wd _ (List.getElem_mem h)
theorem allP_ne {M N : Cmp} : 1 ≤ (allP M N).length := by
  have := (prs_pre M N (i := 0) (j := M.rows.length * N.rows.length) (Nat.zero_le _)).length_le
  exact this
theorem nxt_all {M N : Cmp} (o1 : M.Ok) (o2 : N.Ok) {p q : Pr} (hp : p ∈ allP M N) (hq : q ∈ nxt M N p) : q ∈ allP M N := by
  obtain ⟨i, hi⟩ := List.mem_iff_getElem?.mp hp
  have hl : i < (allP M N).length := (List.getElem?_eq_some_iff.mp hi).1
  have ln := prs_len o1 o2 (M.rows.length * N.rows.length)
  have hp' : (prs M N i)[i]? = some p := by
    by_cases hlt : i < (prs M N i).length
    · obtain ⟨c, ec⟩ := prs_all o1 o2 i
      rw [← ec, List.getElem?_append_left hlt] at hi
      exact hi
    · rw [allP_of o1 o2 (by omega)]
      exact hi
  exact (prs_all o1 o2 (i + 1)).subset (nxt_mem hp' hq)
theorem thenC_Ok {M N : Cmp} (o1 : M.Ok) (o2 : N.Ok) (hL : M.L = N.L) (h : (allP M N).length ≤ 61) : (thenC M N).Ok := by
  have rl : (thenC M N).rows.length = (allP M N).length := by unfold thenC; rw [List.length_map]
  refine ⟨o1.l1, o1.l3, by rw [rl]; exact allP_ne, by rw [rl]; exact h, fun r hr => ?_, fun r hr t ht => ?_, ?_, fun v hv => ?_⟩
  · obtain ⟨p, hp, rfl⟩ := List.mem_map.mp (show r ∈ (allP M N).map (rowT M N) from hr)
    obtain ⟨h1, h2⟩ := prs_in o1 o2 _ p hp
    unfold rowT nxt
    rw [List.length_map, List.length_zip, row_wd o1 h1, row_wd o2 h2, ← hL, Nat.min_self]
    rfl
  · obtain ⟨p, hp, rfl⟩ := List.mem_map.mp (show r ∈ (allP M N).map (rowT M N) from hr)
    unfold rowT at ht
    obtain ⟨q, hq, rfl⟩ := List.mem_map.mp ht
    rw [rl]
    exact List.idxOf_lt_length_of_mem (nxt_all o1 o2 hp hq)
  · unfold thenC
    rw [List.length_map, List.length_map]
  · obtain ⟨p, hp, rfl⟩ := List.mem_map.mp (show v ∈ (allP M N).map (verT M N) from hv)
    unfold verT
    split
    · exact Cmp.ver_b o1 _
    · exact Cmp.ver_b o2 _
/-! ### a drawn order -/
def spOrder : SpD := fun ds S Q => ∃ L : Nat, ds = [.deck, .int (L : Nat)] ∧ 1 ≤ L ∧ L ≤ 3 ∧ S.c + 20 ≤ 1000000000000 ∧ ∀ M : Cmp, M.Ok → M.L = L → M.rows.length ≤ 9 → Q M.enc (S.tick 20)
theorem order_len (ds : List D) (S : HD) (Q : QD) (h : spOrder ds S Q) : ds.length = 2 := by
  obtain ⟨_, rfl, _⟩ := h
  rfl
/-- an order of one kind of ranks, or turned -/
structure One (L : Nat) (M : Cmp) : Prop where
  ok : M.Ok
  l : M.L = L
  n : M.rows.length = 3
theorem order_ok (ds : List D) (S : HD) (Q : QD) (h : spOrder ds S Q) : rd__law_order spDraw spOne spRanked spTurned spLThen (ends Q) (pad 7 ds) S := by
  obtain ⟨L, rfl, h1, h3, hc, q⟩ := h
  have hsl : (sizeLine : Nat) = 16777216 := rfl
  unfold rd__law_order
  refine seq_step fun N1 hN1 => ?_
  walk_at "rdx"
  refine ⟨by decide, fun p hp => hN1 _ _ ?_⟩
  clear hN1 N1
  refine seq_step fun N1 hN1 => ?_
  generalize hB : (sSeqD (sAsgD (tCallD spOne _) (gNameD 4)) _ : TSD) = B1
  walk_at "rdx"
  refine ⟨⟨by decide, by decide, by omega⟩, fun r r0 r1 => ⟨⟨by omega, by omega⟩, ?_⟩⟩
  have u0 : Up 1 S ((S.set p (OD.lst [])).tick 1) := ((Up.refl S).set hp).tick (k := 1)
  refine loopD_go (fun i σ S' => (∃ v3 v4 v5, σ = [some .deck, some (.int (L : Nat)), some (.ref p), v3, v4, v5, none]) ∧ ∃ Ms : List Cmp, S'.hp p = some (.lst (Ms.map Cmp.enc)) ∧ Ms.length = i ∧ (∀ M ∈ Ms, One L M) ∧ Up (1 + 5 * i) S S')
    ⟨⟨_, _, _, rfl⟩, [], by rw [HD.tick_hp, HD.set_same]; rfl, rfl, fun _ h => (by cases h), u0⟩
    (fun i d σ S' N hi ⟨⟨v3, v4, v5, e1⟩, Ms, g1, g2, g3, up⟩ k => ⟨trivial, ?_⟩) (fun σ S' ⟨⟨v3, v4, v5, e1⟩, Ms, g1, g2, g3, up⟩ => ⟨trivial, ?_⟩)
  · obtain ⟨hi1, rfl⟩ := rngD_get hi
    have hi2 : i < 2 := by omega
    have c0 := up.c
    subst e1
    walk_at "rdx"
    subst hB
    refine seq_step fun N2 hN2 => ?_
    walk_at "rdx"
    refine ⟨by decide, _, _, rfl, rfl, by simp, by simp, by omega, fun o ho => ?_⟩
    obtain ⟨m, rfl, hm1, hm3⟩ : ∃ m : Int, o = .int m ∧ 1 ≤ m ∧ m ≤ 3 := by
      simp only [List.mem_cons, List.not_mem_nil, or_false] at ho
      rcases ho with h | h | h
      · exact ⟨1, h, by decide, by decide⟩
      · exact ⟨2, h, by decide, by decide⟩
      · exact ⟨3, h, by decide, by decide⟩
    refine hN2 _ _ ?_
    clear hN2 N2 ho
    refine seq_step fun N2 hN2 => ?_
    generalize hD : (tCallD spDraw _ : TED) = D1
    generalize hg : gNameD 6 = g0
    walk_at "rdx"
    subst hg
    have lL : (rngD 0 (L : Int).toNat).length = L := by rw [rngD_len, Int.toNat_natCast]
    refine ⟨⟨by omega, by omega⟩, by omega, ?_⟩
    refine lcD_go (fun j acc S2 => ∃ rs : List Int, acc = rs.map D.int ∧ rs.length = j ∧ (∀ x ∈ rs, 0 ≤ x ∧ x < 3) ∧ S2.hp = S'.hp ∧ Up (1 + 5 * i + 1 + j) S S2) ⟨[], rfl, rfl, fun _ h => (by cases h), rfl, up.tick (k := 1)⟩
      (fun j d acc S2 N3 hj ⟨rs, a1, a2, a3, a4, a5⟩ kk => ⟨trivial, ?_⟩) (fun acc S2 ⟨rs, a1, a2, a3, a4, a5⟩ => ⟨trivial, ?_⟩)
    · have hj1 := (List.getElem?_eq_some_iff.mp hj).1
      have := a5.c
      walk_at "rdx"
      subst hD
      walk_at "rdx"
      refine ⟨⟨hm1, by omega, by omega⟩, fun x x0 x1 => kk _ _ ⟨rs ++ [x], by rw [a1, List.map_append]; rfl, by rw [List.length_append, a2]; rfl, fun y hy => ?_, a4, a5.tick (k := 1)⟩⟩
      rcases List.mem_append.mp hy with h | h
      · exact a3 y h
      · rw [List.mem_singleton.mp h]; omega
    · rw [lL] at a2 a5
      have rok : ROk L rs := ⟨a2, fun x hx => by have := a3 x hx; omega⟩
      refine ⟨L, _, rs, rfl, .inr (by rw [a1]), h1, h3, rok, hN2 _ _ ?_⟩
      clear hN2 N2 hD
      rw [← ranked_enc]
      have mo : (ranked L rs).Ok := ranked_Ok h1 h3
      have g1' : S2.hp p = some (.lst (Ms.map Cmp.enc)) := by rw [a4]; exact g1
      have a6 : Up (1 + 5 * (i + 1)) S (S2.tick 1) := (a5.tick (k := 1)).mono (by omega)
      have c5 := a5.c
      walk_at "rdx"
      refine ⟨⟨_, g1'⟩, ⟨by decide, by decide, by omega⟩, fun x x0 x1 => ?_⟩
      have put : ∀ M : Cmp, One L M → (S2.tick 1).hp p = some (.lst (Ms.map Cmp.enc)) → N [some D.deck, some (D.int (L : Nat)), some (D.ref p), some (D.int (0 + (i : Int))), some (D.int m), some (ranked L rs).enc, none] ((S2.tick 1).set p (.lst (Ms.map Cmp.enc ++ [M.enc]))) := fun M m1 hh =>
        k _ _ ⟨⟨_, _, _, rfl⟩, Ms ++ [M], by rw [HD.set_same, List.map_append]; rfl, by rw [List.length_append, g2]; rfl, fun x hx => (List.mem_append.mp hx).elim (g3 x) fun e => by rw [List.mem_singleton.mp e]; exact m1, a6.set hp⟩
      have lm : (Ms.map Cmp.enc).length < 16000000 := by rw [List.length_map]; omega
      by_cases e : x = 0
      · simp only [e, decide_true, if_true]
        refine ⟨ranked L rs, rfl, mo, ?_⟩
        simp only [HD.tick_hp, g1']
        exact ⟨lm, put (ranked L rs).turn ⟨mo.turn, rfl, rfl⟩ g1'⟩
      · simp only [e, decide_false, Bool.false_eq_true, if_false, g1']
        exact ⟨lm, put (ranked L rs) ⟨mo, rfl, rfl⟩ g1'⟩
  · subst e1
    clear hB
    refine hN1 _ _ ?_
    clear hN1 N1
    rw [rngD_len] at g2 up
    walk_at "rdx"
    simp only [g1]
    rw [List.length_map]
    have hr : Ms.length = 1 ∨ Ms.length = 2 := by omega
    rcases hr with e | e
    · obtain ⟨M, rfl⟩ : ∃ M, Ms = [M] := by
        match Ms, e with
        | [M], _ => exact ⟨M, rfl⟩
      have m1 := g3 M (by simp)
      simp only [List.length_cons, List.length_nil, show ((0 + 1 : Nat) : Int) = 1 by decide, decide_true, if_true, List.map_cons, List.map_nil]
      have e0 : L2.atI [M.enc] 0 = some M.enc := rfl
      rw [e0]
      exact (up.mono (by omega)).fin (q M m1.ok m1.l (by rw [m1.n]; decide))
    · obtain ⟨M, N, rfl⟩ : ∃ M N, Ms = [M, N] := by
        match Ms, e with
        | [M, N], _ => exact ⟨M, N, rfl⟩
      have m1 := g3 M (by simp)
      have m2 := g3 N (by simp)
      have la := prs_len m1.ok m2.ok (M.rows.length * N.rows.length)
      have la : (allP M N).length ≤ 9 := by
        have : (allP M N).length ≤ M.rows.length * N.rows.length := la
        rw [m1.n, m2.n] at this
        exact this
      have hd : decide ((([M, N] : List Cmp).length : Int) = 1) = false := rfl
      rw [hd]
      have e0 : L2.atI ([M, N].map Cmp.enc) 0 = some M.enc := rfl
      have e1 : L2.atI ([M, N].map Cmp.enc) 1 = some N.enc := rfl
      simp only [Bool.false_eq_true, if_false, e0, e1]
      have oT := thenC_Ok m1.ok m2.ok (m1.l.trans m2.l.symm) (by omega)
      have rl : (thenC M N).rows.length = (allP M N).length := by unfold thenC; rw [List.length_map]
      exact ⟨M, N, rfl, m1.ok, m2.ok, (up.mono (by omega)).fin (q _ oT m1.l (by rw [rl]; exact la))⟩
end K37
end

section
/-! L37: the law of k37. -/
namespace K37
open PySem PySem.Spec PyProof.Rows PD
local macro_rules | `(tactic| walk_at "rdx") => `(tactic| simp only [PD.pad, PD.gt_z, PD.gt_s, PD.st_z, PD.st_s, PD.sNextD, PD.sSeqD, PD.sBreakD, PD.sContD, PD.sDropD, PD.sRetD, PD.sRetND, PD.sIfD, PD.sNeverD, PD.sAsgD, PD.sPar2, PD.sPar3, PD.gNameD, PD.gNilD, PD.gConsD, PD.gTupD, PD.gSubD, PD.tNilD, PD.tConsD, PD.tTupD, PD.tLstV, PD.tLstR, PD.tBin, PD.tTst, PD.tAndD, PD.tOrD, PD.tNotD, PD.tIfD, PD.tAndV, PD.tOrV, PD.tNotV, PD.tUnD, PD.rNeg, PD.tCallD, PD.tSlot, PD.tCD, PD.tChainD, PD.rIsN, PD.rNotN, PD.rIsiD, PD.isi_non, PD.isi_bl, PD.isi_int, PD.isi_str, PD.isi_tup, PD.isi_lst, PD.isi_dic, PD.Ty.name, PD.rCmpI, PD.fLt, PD.fLe, PD.fGt, PD.fGe, PD.rAddD, PD.rSubD, PD.rFdivD, PD.rModD, PD.rPowD, PD.rMulD, PD.rAddR, PD.rMulR, PD.asSeq, PD.asLst, PD.rLenD, PD.rTupleD, PD.rListV, PD.rListR, PD.rIntD, PD.rBoolD, PD.rAbsD, PD.rIxD, PD.oNone, PD.oSome, PD.tSlD, PD.rSlD, PD.tRevTD, PD.rEqD, PD.rNeD, PD.nrm_non, PD.nrm_bl, PD.nrm_int, PD.nrm_str, PD.nrm_tup, PD.nrm_lst, PD.nrm_dic, PD.nrm_ref, PD.iSeqD, PD.iRng1D, PD.iRng2D, PD.sForD, PD.tLcV, PD.tLcR, PD.tYesD, PD.wipeD, PD.tMethL, PD.rAppD, PD.isRefL, PD.tDicV, PD.keyOf, PD.asDic, PD.srcD, PD.iAnyD, PD.iZipD, PD.iEnumD, PD.tDcV, PD.tDicR, PD.gSubX, PD.rSetX, PD.rIxX, PD.rInD, PD.rInX, PD.rInY, PD.rInZ, PD.rSumD, PD.tRevLD, PD.tRevX, PD.rSixD, PD.rJoinD, PD.tMethS, PD.rLixD, PD.rPopD, PD.rExtD, PD.tMethA, PD.rSetD, PD.rReprD, PD.eqk_int, PD.eqd_int, PD.eqk_str, PD.eqd_str, PD.eqk_lst0, PD.eqd_lst0, PD.eqk_tup0, PD.eqd_tup0, PD.tdOf, PD.rInW, PD.rIxW, PD.rSetW, PD.gSubW, PD.rLenW, PD.rGetW, PD.rGetAt, PD.tMethW, PD.rSetdW, PD.tDispR, PD.tPairsD, PD.putAll, PD.tDisp1T, PD.gSeqD, PD.rListW, PD.tLenSetD, PD.tFldD, PD.fldD, PD.tMethC, PD.methD, PD.tMakeD, PD.sFldD, PD.tMethB, PD.rLjD, PD.tCallX, PD.sRetX, PD.sRaiseD, PD.sTryD, PD.hdlD, PD.noX, PD.rExtX, PD.rTupleX, PD.gUnpD, PD.tDictZ, PD.rInP, PD.rLixP, PD.tCallE, PD.tNilL, PD.tConsL, PD.tLamL, PD.tCallL, PD.tDispV, Option.map_some, Option.bind_some, PD.spFn, PD.spDraw, reduceIte, true_and, and_true, or_false, false_or, Bool.not_true, Bool.not_false, Bool.false_eq_true, List.length_cons, List.length_nil, List.set_cons_zero, List.set_cons_succ, PD.HD.set_same, PD.HD.tick_hp, PD.HD.tick_c, PD.HD.tick_dk, PD.HD.set_c, PD.HD.set_dk])
local macro_rules | `(tactic| simp_all only [$xs,*]) => `(tactic| simp only [PD.pad, PD.gt_z, PD.gt_s, PD.st_z, PD.st_s, PD.sNextD, PD.sSeqD, PD.sBreakD, PD.sContD, PD.sDropD, PD.sRetD, PD.sRetND, PD.sIfD, PD.sNeverD, PD.sAsgD, PD.sPar2, PD.sPar3, PD.gNameD, PD.gNilD, PD.gConsD, PD.gTupD, PD.gSubD, PD.tNilD, PD.tConsD, PD.tTupD, PD.tLstV, PD.tLstR, PD.tBin, PD.tTst, PD.tAndD, PD.tOrD, PD.tNotD, PD.tIfD, PD.tAndV, PD.tOrV, PD.tNotV, PD.tUnD, PD.rNeg, PD.tCallD, PD.tSlot, PD.tCD, PD.tChainD, PD.rIsN, PD.rNotN, PD.rIsiD, PD.isi_non, PD.isi_bl, PD.isi_int, PD.isi_str, PD.isi_tup, PD.isi_lst, PD.isi_dic, PD.Ty.name, PD.rCmpI, PD.fLt, PD.fLe, PD.fGt, PD.fGe, PD.rAddD, PD.rSubD, PD.rFdivD, PD.rModD, PD.rPowD, PD.rMulD, PD.rAddR, PD.rMulR, PD.asSeq, PD.asLst, PD.rLenD, PD.rTupleD, PD.rListV, PD.rListR, PD.rIntD, PD.rBoolD, PD.rAbsD, PD.rIxD, PD.oNone, PD.oSome, PD.tSlD, PD.rSlD, PD.tRevTD, PD.rEqD, PD.rNeD, PD.nrm_non, PD.nrm_bl, PD.nrm_int, PD.nrm_str, PD.nrm_tup, PD.nrm_lst, PD.nrm_dic, PD.nrm_ref, PD.iSeqD, PD.iRng1D, PD.iRng2D, PD.sForD, PD.tLcV, PD.tLcR, PD.tYesD, PD.wipeD, PD.tMethL, PD.rAppD, PD.isRefL, PD.tDicV, PD.keyOf, PD.asDic, PD.srcD, PD.iAnyD, PD.iZipD, PD.iEnumD, PD.tDcV, PD.tDicR, PD.gSubX, PD.rSetX, PD.rIxX, PD.rInD, PD.rInX, PD.rInY, PD.rInZ, PD.rSumD, PD.tRevLD, PD.tRevX, PD.rSixD, PD.rJoinD, PD.tMethS, PD.rLixD, PD.rPopD, PD.rExtD, PD.tMethA, PD.rSetD, PD.rReprD, PD.eqk_int, PD.eqd_int, PD.eqk_str, PD.eqd_str, PD.eqk_lst0, PD.eqd_lst0, PD.eqk_tup0, PD.eqd_tup0, PD.tdOf, PD.rInW, PD.rIxW, PD.rSetW, PD.gSubW, PD.rLenW, PD.rGetW, PD.rGetAt, PD.tMethW, PD.rSetdW, PD.tDispR, PD.tPairsD, PD.putAll, PD.tDisp1T, PD.gSeqD, PD.rListW, PD.tLenSetD, PD.tFldD, PD.fldD, PD.tMethC, PD.methD, PD.tMakeD, PD.sFldD, PD.tMethB, PD.rLjD, PD.tCallX, PD.sRetX, PD.sRaiseD, PD.sTryD, PD.hdlD, PD.noX, PD.rExtX, PD.rTupleX, PD.gUnpD, PD.tDictZ, PD.rInP, PD.rLixP, PD.tCallE, PD.tNilL, PD.tConsL, PD.tLamL, PD.tCallL, PD.tDispV, Option.map_some, Option.bind_some, PD.spFn, PD.spDraw, reduceIte, true_and, and_true, or_false, false_or, Bool.not_true, Bool.not_false, Bool.false_eq_true, List.length_cons, List.length_nil, List.set_cons_zero, List.set_cons_succ, PD.HD.set_same, PD.HD.tick_hp, PD.HD.tick_c, PD.HD.tick_dk, PD.HD.set_c, PD.HD.set_dk, $xs,*])
theorem szL_rev (xs : List D) : szL xs.reverse = szL xs := by
  induction xs with
  | nil => rfl
  | cons x xs ih => rw [List.reverse_cons, szL_app, ih]; simp only [szL]; omega
/-- small data of some depth -/
def Sm (z h : Nat) (v : D) : Prop := okR v = true ∧ dep v ≤ h ∧ sz v ≤ z
theorem Sm.mono {z h z' h' : Nat} {v : D} (s : Sm z h v) (l : z ≤ z') (l' : h ≤ h') : Sm z' h' v := ⟨s.1, Nat.le_trans s.2.1 l', Nat.le_trans s.2.2 l⟩
/-- small lists -/
def SmL (z h : Nat) (xs : List D) : Prop := okRL xs = true ∧ depL xs ≤ h ∧ szL xs ≤ z
theorem SmL.nil : SmL 0 0 [] := ⟨rfl, Nat.le_refl _, Nat.le_refl _⟩
theorem SmL.cons {z h z' h' : Nat} {x : D} {xs : List D} (a : Sm z h x) (b : SmL z' h' xs) : SmL (z + 2 + z') (max h h') (x :: xs) :=
  ⟨by simp only [okRL, a.1, b.1, Bool.and_self], by have := a.2.1; have := b.2.1; simp only [depL]; omega, by have := a.2.2; have := b.2.2; simp only [szL]; omega⟩
theorem SmL.app {z h z' h' : Nat} {xs ys : List D} (a : SmL z h xs) (b : SmL z' h' ys) : SmL (z + z') (max h h') (xs ++ ys) :=
  ⟨okRL_app a.1 b.1, by have := a.2.1; have := b.2.1; rw [depL_app]; omega, by have := a.2.2; have := b.2.2; rw [szL_app]; omega⟩
theorem SmL.take {z h : Nat} {xs : List D} (a : SmL z h xs) (n : Nat) : SmL z h (xs.take n) :=
  ⟨okRL_sub a.1 fun y => List.mem_of_mem_take, Nat.le_trans (depL_sub fun y => List.mem_of_mem_take) a.2.1, Nat.le_trans (szL_take xs n) a.2.2⟩
theorem SmL.drop {z h : Nat} {xs : List D} (a : SmL z h xs) (n : Nat) : SmL z h (xs.drop n) :=
  ⟨okRL_sub a.1 fun y => List.mem_of_mem_drop, Nat.le_trans (depL_sub fun y => List.mem_of_mem_drop) a.2.1, Nat.le_trans (szL_drop xs n) a.2.2⟩
theorem SmL.rev {z h : Nat} {xs : List D} (a : SmL z h xs) : SmL z h xs.reverse :=
  ⟨okRL_sub a.1 fun y => List.mem_reverse.mp, Nat.le_trans (depL_sub fun y => List.mem_reverse.mp) a.2.1, by rw [szL_rev]; exact a.2.2⟩
theorem SmL.of {z h : Nat} {xs : List D} (a : ∀ x ∈ xs, Sm z h x) : SmL (xs.length * (z + 2)) h xs :=
  ⟨okRL_of fun x hx => (a x hx).1, depL_of fun x hx => (a x hx).2.1, szL_of fun x hx => (a x hx).2.2⟩
theorem SmL.mono {z h z' h' : Nat} {xs : List D} (s : SmL z h xs) (l : z ≤ z') (l' : h ≤ h') : SmL z' h' xs := ⟨s.1, Nat.le_trans s.2.1 l', Nat.le_trans s.2.2 l⟩
theorem SmL.tup {z h : Nat} {xs : List D} (a : SmL z h xs) : Sm (z + 3) (h + 1) (.tup xs) := ⟨a.1, by simp only [dep]; exact Nat.succ_le_succ a.2.1, by simp only [sz]; exact Nat.add_le_add_right a.2.2 3⟩
theorem SmL.lst {z h : Nat} {xs : List D} (a : SmL z h xs) : Sm (z + 3) (h + 1) (.lst xs) := ⟨a.1, by simp only [dep]; exact Nat.succ_le_succ a.2.1, by simp only [sz]; exact Nat.add_le_add_right a.2.2 3⟩
theorem SmL.get {z h : Nat} {xs : List D} {x : D} (a : SmL z h xs) (hx : x ∈ xs) : Sm z h x := ⟨okRL_mem a.1 hx, Nat.le_trans (depL_le hx) a.2.1, Nat.le_trans (szL_mem hx) a.2.2⟩
theorem sm_int {i : Int} (h0 : -1 ≤ i) (h1 : i ≤ 1000) : Sm 13 0 (.int i) := by
  have h2 : i.natAbs < 1024 := by omega
  have h3 : i.natAbs.log2 < 10 := by
    by_cases h : i.natAbs = 0
    · rw [h]; decide
    · exact (Nat.log2_lt h).mpr h2
  exact ⟨by simp only [okR, decide_eq_true_eq]; omega, Nat.le_refl _, by simp only [sz]; omega⟩
theorem sm_non : Sm 13 0 .non := ⟨rfl, Nat.le_refl _, by decide⟩
theorem sm_bl {b : Bool} : Sm 13 0 (.bl b) := ⟨rfl, Nat.le_refl _, (by decide : 5 ≤ 13)⟩

theorem Sm.bound {z h : Nat} {v : D} (s : Sm z h v) (l : z ≤ 16000000) (l' : h ≤ 60) : okR v = true ∧ dep v ≤ 60 ∧ sz v ≤ 16000000 := ⟨s.1, Nat.le_trans s.2.1 l', Nat.le_trans s.2.2 l⟩

theorem sm_cmp {M : Cmp} (ok : M.Ok) : Sm 20000 3 M.enc := by
  have l1 := ok.l1
  have l3 := ok.l3
  have n61 := ok.n61
  have vl := ok.vl
  have cl : (cols M.L).length ≤ 15 := by
    rw [cols_le l1 l3]
    generalize M.L = L at l1 l3
    obtain rfl | rfl | rfl : L = 1 ∨ L = 2 ∨ L = 3 := by omega
    all_goals decide
  have h1 : SmL (61 * 230) 1 (M.rows.map encR) := by
    refine (SmL.of (z := 228) (h := 1) fun x hx => ?_).mono (by rw [List.length_map]; omega) (Nat.le_refl _)
    obtain ⟨r, hr, rfl⟩ := List.mem_map.mp hx
    have : SmL (r.length * 15) 0 (r.map fun t => D.int (t : Nat)) := by
      refine (SmL.of (z := 13) fun y hy => ?_).mono (by rw [List.length_map]; omega) (Nat.le_refl _)
      obtain ⟨c, hc, rfl⟩ := List.mem_map.mp hy
      have := ok.lt r hr c hc
      exact sm_int (by omega) (by omega)
    have hw := ok.wd r hr
    exact this.tup.mono (by omega) (Nat.le_refl _)
  have h2 : SmL (61 * 15) 0 (M.vs.map D.int) := by
    refine (SmL.of (z := 13) fun x hx => ?_).mono (by rw [List.length_map]; omega) (Nat.le_refl _)
    obtain ⟨b, hb, rfl⟩ := List.mem_map.mp hx
    have := ok.vb b hb
    exact sm_int (by omega) (by omega)
  have h3 : Sm 13 0 (.int (M.L : Nat)) := sm_int (by omega) (by omega)
  exact ((SmL.cons h3 (SmL.cons h1.tup (SmL.cons h2.tup SmL.nil))).tup).mono (by decide) (by decide)
theorem enc_nrm (M : Cmp) (S : HD) : nrm S M.enc = M.enc := rfl
theorem told_good {M N : Cmp} (o1 : M.Ok) (o2 : N.Ok) : okR (toldD M N) = true ∧ dep (toldD M N) ≤ 60 ∧ sz (toldD M N) ≤ 16000000 := by
  unfold toldD
  split
  · rename_i hL
    split
    · rename_i h60
      exact (sm_cmp (thenC_Ok o1 o2 hL (by omega))).bound (by decide) (by decide)
    · decide +kernel
  · decide +kernel
theorem told_nrm (M N : Cmp) (S : HD) : nrm S (toldD M N) = toldD M N := by
  unfold toldD
  repeat' split
  all_goals rfl
theorem len_law (ds : List D) (S : HD) (Q : QD) (h : spLaw ds S Q) : ds.length = 1 := by
  obtain ⟨_, rfl, _⟩ := h
  rfl
/-- two comparisons beside each other, as one text -/
theorem two_good {M N : Cmp} (o1 : M.Ok) (o2 : N.Ok) : okR (.lst [M.enc, N.enc]) = true ∧ dep (.lst [M.enc, N.enc]) ≤ 60 ∧ sz (.lst [M.enc, N.enc]) ≤ 16000000 :=
  (SmL.cons (sm_cmp o1) (SmL.cons (sm_cmp o2) SmL.nil)).lst.bound (by decide) (by decide)
/-- a ring of rows -/
def ring (L n : Nat) : Cmp := ⟨L, (List.range n).map fun i => List.replicate (cols L).length ((i + 1) % n), List.replicate n 0⟩
theorem ring_Ok {L n : Nat} (h1 : 1 ≤ L) (h3 : L ≤ 3) (hn : 1 ≤ n) (hn2 : n ≤ 61) : (ring L n).Ok := by
  have rl : (ring L n).rows.length = n := by simp [ring]
  refine ⟨h1, h3, by rw [rl]; exact hn, by rw [rl]; exact hn2, fun r hr => ?_, fun r hr t ht => ?_, by rw [rl]; simp [ring], fun v hv => ?_⟩
  · obtain ⟨i, _, rfl⟩ := List.mem_map.mp (show r ∈ (List.range n).map _ from hr)
    exact List.length_replicate
  · obtain ⟨i, _, rfl⟩ := List.mem_map.mp (show r ∈ (List.range n).map _ from hr)
    rw [List.eq_of_mem_replicate ht, rl]
    exact Nat.mod_lt _ (by omega)
  · rw [List.eq_of_mem_replicate (show v ∈ List.replicate n (0 : Int) from hv)]
    exact ⟨by decide, by decide⟩
theorem ring_enc (L n : Nat) : (ring L n).enc = .tup [.int (L : Nat), .tup ((List.range n).map fun i => .tup (List.replicate (cols L).length (.int (((i + 1) % n : Nat) : Int)))), .tup ((List.replicate n (0 : Int)).map D.int)] := by
  unfold ring Cmp.enc Cmp.rowsD Cmp.vsD encR
  simp only [List.map_map, Function.comp_def, List.map_replicate]
theorem ring_lc {L n : Nat} (h1 : 1 ≤ L) (h3 : L ≤ 3) {te : TED} {σ : SD} {S : HD} {Q : List D → HD → Prop} (each : ∀ i : Nat, i < n → ∀ Q1 : D → HD → Prop, Q1 (.tup (List.replicate (cols L).length (.int (((i + 1) % n : Nat) : Int)))) S → gNameD 13 (.int (i : Nat)) σ S fun σ2 S2 => te σ2 S2 Q1)
    (q : Q ((List.range n).map fun i => .tup (List.replicate (cols L).length (.int (((i + 1) % n : Nat) : Int)))) S) : lcD (gNameD 13) tYesD te σ (fun _ => True) Q (rngD 0 n) [] S := by
  refine lcD_pure (fun d => match d with
    | .int k => some (.tup (List.replicate (cols L).length (.int (((k.toNat + 1) % n : Nat) : Int))))
    | _ => none) trivial _ [] (fun d hd Q1 Q0 h => ?_) ?_
  · obtain ⟨i, hi⟩ := List.mem_iff_getElem?.mp hd
    obtain ⟨hi1, rfl⟩ := rngD_get hi
    rw [Int.zero_add] at h ⊢
    have h : Q1 (.tup (List.replicate (cols L).length (.int (((((i : Nat) : Int).toNat + 1) % n : Nat) : Int)))) S := h
    rw [Int.toNat_natCast] at h
    exact each i hi1 Q1 h
  · rw [List.nil_append]
    have : (rngD 0 n).filterMap (fun d => match d with
      | .int k => some (D.tup (List.replicate (cols L).length (.int (((k.toNat + 1) % n : Nat) : Int))))
      | _ => none) = (List.range n).map fun i => .tup (List.replicate (cols L).length (.int (((i + 1) % n : Nat) : Int))) := by
      unfold rngD
      refine fm_map (f := fun i : Nat => D.int ((0 : Int) + (i : Nat))) fun i _ => ?_
      show some (D.tup (List.replicate _ (.int (((((0 : Int) + (i : Nat)).toNat + 1) % n : Nat) : Int)))) = _
      rw [Int.zero_add, Int.toNat_natCast]
    rw [this]
    exact q
theorem rep1 (n : Nat) (x : D) : (List.replicate n [x]).flatten = List.replicate n x := by
  induction n with
  | zero => rfl
  | succ n ih => rw [List.replicate_succ, List.flatten_cons, ih, List.replicate_succ]; rfl
theorem zeros0 (n : Nat) : (List.replicate n [D.int 0]).flatten = (List.replicate n (0 : Int)).map D.int := by
  rw [rep1, List.map_replicate]
theorem hq_law (ds : List D) (S : HD) (Q : QD) (h : spLaw ds S Q) : rd_law spDeck spDraw spOne spRanks spLength spRanked spComp spOrder spTurned spTurned spTold spTold spColsL (ends Q) (pad 14 ds) S := by
  obtain ⟨ns, rfl, hl, h1, h2, h3, q⟩ := h
  have hsl : (sizeLine : Nat) = 16777216 := rfl
  unfold rd_law
  refine seq_step fun N0 hN0 => ?_
  walk_at "rdx"
  refine ⟨⟨ns, rfl⟩, h3, fun dk => hN0 _ _ ?_⟩
  clear hN0 N0
  refine seq_step fun N0 hN0 => ?_
  generalize hB : (sSeqD (sAsgD (tBin rAddD (tCD (.int 1)) (tCallD spDraw _)) (gNameD 3)) _ : TSD) = B1
  walk_at "rdx"
  refine ⟨by decide, loopD_go (fun i σ S' => (∃ v2 v3 v4 v5 v6 v7 v8 v9 v10 v11 v12 v13, σ = [some (.lst (ns.map D.int)), some .deck, v2, v3, v4, v5, v6, v7, v8, v9, v10, v11, v12, v13]) ∧ S'.c ≤ 9000 * i) ⟨⟨_, _, _, _, _, _, _, _, _, _, _, _, rfl⟩, Nat.le_refl _⟩
    (fun i d σ S' N hi ⟨⟨v2, v3, v4, v5, v6, v7, v8, v9, v10, v11, v12, v13, e1⟩, hc⟩ k => ⟨trivial, ?_⟩) (fun σ S' ⟨⟨v2, v3, v4, v5, v6, v7, v8, v9, v10, v11, v12, v13, e1⟩, hc⟩ => ⟨trivial, ?_⟩)⟩
  · obtain ⟨hi1, rfl⟩ := rngD_get hi
    have hi7 : i < 7 := hi1
    subst e1
    rw [Int.zero_add]
    walk_at "rdx"
    subst hB
    refine seq_step fun N1 hN1 => ?_
    walk_at "rdx"
    refine ⟨⟨by decide, by decide, by omega⟩, fun r r0 r1 => hN1 _ _ ?_⟩
    clear hN1 N1
    obtain ⟨L, e, hL1, hL3⟩ : ∃ L : Nat, 1 + r = (L : Nat) ∧ 1 ≤ L ∧ L ≤ 3 := ⟨(1 + r).toNat, by omega, by omega, by omega⟩
    rw [e]
    clear e r0 r1 r
    refine seq_step fun N1 hN1 => ?_
    generalize hD : (tCallD spOne _ : TED) = D1
    generalize hg : gNameD 12 = g0
    walk_at "rdx"
    subst hg
    have lL : (rngD 0 (L : Int).toNat).length = L := by rw [rngD_len, Int.toNat_natCast]
    refine ⟨⟨by omega, by omega⟩, by omega, ?_⟩
    refine lcD_go (fun j acc S2 => ∃ rs : List Int, acc = rs.map D.int ∧ rs.length = j ∧ (∀ x ∈ rs, -5 ≤ x ∧ x ≤ 10 ^ 30) ∧ S2.c ≤ 9000 * i + 1 + j) ⟨[], rfl, rfl, fun _ h => (by cases h), by simp only [HD.tick_c]; omega⟩
      (fun j d acc S2 N3 hj ⟨rs, a1, a2, a3, a5⟩ kk => ⟨trivial, ?_⟩) (fun acc S2 ⟨rs, a1, a2, a3, a5⟩ => ⟨trivial, ?_⟩)
    · have hj1 := (List.getElem?_eq_some_iff.mp hj).1
      walk_at "rdx"
      subst hD
      walk_at "rdx"
      refine ⟨by decide, by decide, _, _, rfl, rfl, by simp, by simp, by omega, fun o ho => ?_⟩
      obtain ⟨x, rfl, hx1, hx2⟩ : ∃ x : Int, o = .int x ∧ -5 ≤ x ∧ x ≤ 10 ^ 30 := by
        simp only [List.mem_cons, List.not_mem_nil, or_false] at ho
        rcases ho with h | h | h | h | h
        · exact ⟨0, h, by decide, by decide⟩
        · exact ⟨1, h, by decide, by decide⟩
        · exact ⟨2, h, by decide, by decide⟩
        · exact ⟨-5, h, by decide, by decide⟩
        · exact ⟨_, h, by decide, by decide⟩
      refine kk _ _ ⟨rs ++ [x], by rw [a1, List.map_append]; rfl, by rw [List.length_append, a2]; rfl, fun y hy => ?_, by simp only [HD.tick_c]; omega⟩
      rcases List.mem_append.mp hy with h | h
      · exact a3 y h
      · rw [List.mem_singleton.mp h]; exact ⟨hx1, hx2⟩
    · rw [lL] at a2 a5
      clear hD
      refine hN1 _ _ ?_
      clear hN1 N1
      have rok : ROk L rs := ⟨a2, a3⟩
      have rz := zeros_ok L
      rw [a1]
      refine seq_step fun N1 hN1 => ?_
      walk_at "rdx"
      have gg := two_good (ranked_Ok (r := rs) hL1 hL3) (ranked_Ok (r := List.replicate L 0) hL1 hL3)
      rw [ranked_enc, ranked_enc] at gg
      refine ⟨L, rs, rfl, hL1, hL3, rok, L, rfl, hL1, hL3, ?_⟩
      refine ⟨by decide, gg, L, _, rs, rfl, .inl rfl, hL1, hL3, rok, ?_⟩
      rw [zeros]
      refine ⟨by decide, ⟨by omega, by omega, by decide⟩, L, _, _, rfl, .inl rfl, hL1, hL3, rz, by decide, gg, ?_⟩
      have e9 : decide (shw (D.lst [rankedD L rs, rankedD L (List.replicate L 0)]) = shw (D.lst [rankedD L rs, rankedD L (List.replicate L 0)])) = true := decide_eq_true rfl
      rw [e9]
      refine hN1 _ _ ?_
      clear hN1 N1 e9 gg
      -- one comparison
      refine seq_step fun N1 hN1 => ?_
      walk_at "rdx"
      refine ⟨⟨by decide, by decide, by omega⟩, fun r r0 r1 => ?_⟩
      obtain ⟨n, e, hn1, hn9⟩ : ∃ n : Nat, 1 + r = (n : Nat) ∧ 1 ≤ n ∧ n ≤ 9 := ⟨(1 + r).toNat, by omega, by omega, by omega⟩
      rw [e]
      clear e r0 r1 r
      refine ⟨L, n, rfl, hL1, hL3, hn1, by omega, by simp only [HD.tick_c]; omega, fun A oA lA nA => ⟨L, rfl, hL1, hL3, by simp only [HD.tick_c]; omega, fun B oB lB nB => ⟨by decide, _, _, rfl, rfl, by simp, by simp, by simp only [HD.tick_c]; omega, fun o ho => ?_⟩⟩⟩
      obtain ⟨M, rfl, oM, lM, nM⟩ : ∃ M : Cmp, o = M.enc ∧ M.Ok ∧ M.L = L ∧ M.rows.length ≤ 9 := by
        simp only [List.mem_cons, List.not_mem_nil, or_false] at ho
        rcases ho with h | h
        · exact ⟨A, h, oA, lA, by omega⟩
        · exact ⟨B, h, oB, lB, nB⟩
      clear ho oA lA nA A oB lB nB B hn1 hn9 n
      refine hN1 _ _ ?_
      clear hN1 N1
      have c3 : ((((S2.tick 1).tick 1000).tick 20).tick 1).c ≤ 9000 * i + 1030 := by simp only [HD.tick_c]; omega
      generalize ((((S2.tick 1).tick 1000).tick 20).tick 1) = S3 at c3
      refine seq_step fun N1 hN1 => ?_
      walk_at "rdx"
      refine ⟨⟨by decide, by decide, by omega⟩, fun r r0 r1 => ?_⟩
      obtain ⟨n, e, hn1, hn9⟩ : ∃ n : Nat, 1 + r = (n : Nat) ∧ 1 ≤ n ∧ n ≤ 9 := ⟨(1 + r).toNat, by omega, by omega, by omega⟩
      rw [e]
      clear e r0 r1 r
      refine ⟨L, n, rfl, hL1, hL3, hn1, by omega, by simp only [HD.tick_c]; omega, fun A oA lA nA => ⟨L, rfl, hL1, hL3, by simp only [HD.tick_c]; omega, fun B oB lB nB => ⟨by decide, _, _, rfl, rfl, by simp, by simp, by simp only [HD.tick_c]; omega, fun o ho => ?_⟩⟩⟩
      obtain ⟨K, rfl, oK, lK, nK⟩ : ∃ M : Cmp, o = M.enc ∧ M.Ok ∧ M.L = L ∧ M.rows.length ≤ 9 := by
        simp only [List.mem_cons, List.not_mem_nil, or_false] at ho
        rcases ho with h | h | h
        · exact ⟨A, h, oA, lA, by omega⟩
        · exact ⟨B, h, oB, lB, nB⟩
        · exact ⟨M, h, oM, lM, nM⟩
      clear ho oA lA nA A oB lB nB B hn1 hn9 n
      refine hN1 _ _ ?_
      clear hN1 N1
      have c4 : ((((S3.tick 1).tick 1000).tick 20).tick 1).c ≤ 9000 * i + 2060 := by simp only [HD.tick_c]; omega
      generalize ((((S3.tick 1).tick 1000).tick 20).tick 1) = S4 at c4
      refine seq_step fun N1 hN1 => ?_
      walk_at "rdx"
      have el : ((L : Nat) : Int) % 3 + 1 = ((L % 3 + 1 : Nat) : Int) := by omega
      rw [el]
      refine ⟨by decide, L % 3 + 1, 3, rfl, by omega, by omega, by decide, by decide, by omega, fun A oA lA nA => hN1 _ _ ?_⟩
      clear hN1 N1 el
      have c5 : (S4.tick 1000).c ≤ 9000 * i + 3060 := by simp only [HD.tick_c]; omega
      generalize S4.tick 1000 = S5 at c5
      refine seq_step fun N1 hN1 => ?_
      walk_at "rdx"
      have gt := sm_cmp oM.turn
      have gt2 := gt.bound (by decide) (by decide)
      refine ⟨M, rfl, oM, gt2, M, rfl, oM, gt2, ?_⟩
      have e9 : decide (shw (nrm S5 M.turn.enc) = shw (nrm S5 M.turn.enc)) = true := decide_eq_true rfl
      rw [e9]
      refine hN1 _ _ ?_
      clear hN1 N1 e9 gt gt2
      generalize hB : (sIfD (tTst (tBin rNeD _ _)) _ _ : TSD) = B1
      generalize hg : (gTupD 2 _ : TGD) = g0
      walk_at "rdx"
      refine ⟨by decide, by decide, by decide, by decide, by decide, fun hz => ?_⟩
      refine loopD_go (fun j σ S6 => S6 = S5 ∧ ∃ v8 v9, σ = [some (.lst (ns.map D.int)), some .deck, some (.int (i : Nat)), some (.int (L : Nat)), some (.tup (rs.map D.int)), some M.enc, some K.enc, some A.enc, v8, v9, v10, v11, v12, v13]) ⟨rfl, _, _, rfl⟩
        (fun j d σ S6 N2 hj ⟨e4, v8, v9, e5⟩ kk => ⟨trivial, ?_⟩) (fun σ S6 ⟨e4, v8, v9, e5⟩ => ⟨trivial, ?_⟩)
      · subst e4 e5 hg
        obtain ⟨X, Y, rfl, oX, oY⟩ : ∃ X Y : Cmp, d = .tup [X.enc, Y.enc] ∧ X.Ok ∧ Y.Ok := by
          have := List.mem_of_getElem? hj
          simp only [List.mem_cons, List.not_mem_nil, or_false] at this
          rcases this with h | h | h | h
          · exact ⟨M, K, h, oM, oK⟩
          · exact ⟨K, M, h, oK, oM⟩
          · exact ⟨M, A, h, oM, oA⟩
          · exact ⟨A, K, h, oA, oK⟩
        walk_at "rdx"
        subst hB
        walk_at "rdx"
        have tg := told_good oX oY
        refine ⟨X, Y, rfl, oX, oY, ?_⟩
        dsimp only
        rw [told_nrm]
        refine ⟨tg, X, Y, rfl, oX, oY, ?_⟩
        dsimp only
        rw [told_nrm]
        refine ⟨tg, ?_⟩
        have e9 : decide (shw (toldD X Y) = shw (toldD X Y)) = true := decide_eq_true rfl
        rw [e9]
        exact kk _ _ ⟨rfl, _, _, rfl⟩
      · subst e4 e5
        exact k _ _ ⟨⟨_, _, _, _, _, _, _, _, _, _, _, _, rfl⟩, by omega⟩
  · subst e1
    clear hB
    refine hN0 _ _ ?_
    clear hN0 N0
    refine seq_step fun N1 hN1 => ?_
    walk_at "rdx"
    rw [rngD_len] at hc
    have hc : S'.c ≤ 63000 := hc
    refine ⟨⟨by decide, by decide, by omega⟩, fun r r0 r1 => hN1 _ _ ?_⟩
    clear hN1 N1
    obtain ⟨L, e, hL1, hL3⟩ : ∃ L : Nat, 1 + r = (L : Nat) ∧ 1 ≤ L ∧ L ≤ 3 := ⟨(1 + r).toNat, by omega, by omega, by omega⟩
    rw [e]
    clear e r0 r1 r
    refine seq_step fun N1 hN1 => ?_
    walk_at "rdx"
    refine ⟨⟨by decide, by decide, by omega⟩, fun r r0 r1 => hN1 _ _ ?_⟩
    clear hN1 N1
    obtain ⟨n, e, hn7, hn9⟩ : ∃ n : Nat, 7 + r = (n : Nat) ∧ 7 ≤ n ∧ n ≤ 9 := ⟨(7 + r).toNat, by omega, by omega, by omega⟩
    rw [e]
    clear e r0 r1 r
    refine seq_step fun N1 hN1 => ?_
    walk_at "rdx"
    refine ⟨L, rfl, hL1, hL3, ?_⟩
    dsimp only
    refine hN1 _ _ ?_
    clear hN1 N1
    generalize ((S'.tick 1).tick 1) = S2
    refine seq_step fun N1 hN1 => ?_
    generalize hT : (tBin rMulD (tTupD (tConsD (tBin rModD _ _) _)) _ : TED) = T0
    generalize hg : gNameD 13 = g0
    walk_at "rdx"
    refine ⟨⟨by omega, by omega⟩, by rw [rngD_len]; omega, ?_⟩
    rw [Int.toNat_natCast]
    subst hg
    have lc : (cols L).length ≤ 15 := by rw [cols_P hL1 hL3, List.length_map]; exact (colP_len hL1 hL3).1
    refine ring_lc hL1 hL3 (fun i hi Q1 h => ?_) ?_
    · walk_at "rdx"
      subst hT
      walk_at "rdx"
      refine ⟨by omega, by decide, ⟨by omega, by omega, by decide⟩, ?_⟩
      have e1 : ((i : Int) + 1) % (n : Int) = (((i + 1) % n : Nat) : Int) := rfl
      rw [e1, Int.toNat_natCast, rep1]
      exact h
    · refine ⟨by omega, ⟨by omega, by omega, by omega⟩, by omega, ?_⟩
      rw [zeros0, ← ring_enc]
      clear hT T0
      refine hN1 _ _ ?_
      clear hN1 N1
      refine seq_step fun N1 hN1 => ?_
      generalize hT : (tBin rMulD (tTupD (tConsD (tBin rModD _ _) _)) _ : TED) = T0
      generalize hg : gNameD 13 = g0
      walk_at "rdx"
      have e1 : (n : Int) + 1 = ((n + 1 : Nat) : Int) := by omega
      rw [e1]
      refine ⟨⟨by omega, by omega⟩, by rw [rngD_len]; omega, ?_⟩
      rw [Int.toNat_natCast]
      subst hg
      refine ring_lc hL1 hL3 (fun i hi Q1 h => ?_) ?_
      · walk_at "rdx"
        subst hT
        walk_at "rdx"
        have e2 : (n : Int) + 1 = ((n + 1 : Nat) : Int) := by omega
        rw [e2]
        refine ⟨by omega, by decide, ⟨by omega, by omega, by decide⟩, ?_⟩
        have e1 : ((i : Int) + 1) % ((n + 1 : Nat) : Int) = (((i + 1) % (n + 1) : Nat) : Int) := rfl
        rw [e1, Int.toNat_natCast, rep1]
        exact h
      · have e2 : (n : Int) + 1 = ((n + 1 : Nat) : Int) := by omega
        refine ⟨by omega, ⟨by omega, by omega, by omega⟩, by omega, ?_⟩
        rw [zeros0, ← ring_enc]
        refine hN1 _ _ ?_
        clear hN1 N1
        have o1 := ring_Ok (n := n) hL1 hL3 (by omega) (by omega)
        have o2 := ring_Ok (n := n + 1) hL1 hL3 (by omega) (by omega)
        generalize ring L n = X at o1
        generalize ring L (n + 1) = Y at o2
        walk_at "rdx"
        have tg := told_good o1 o2
        refine ⟨X, Y, rfl, o1, o2, ?_⟩
        dsimp only
        rw [told_nrm]
        refine ⟨tg, X, Y, rfl, o1, o2, ?_⟩
        dsimp only
        rw [told_nrm]
        refine ⟨tg, ?_⟩
        have e9 : decide (shw (toldD X Y) = shw (toldD X Y)) = true := decide_eq_true rfl
        rw [e9]
        exact fin.here (q _)
/-- what the law needs of the program -/
theorem all_ok {l : PySem.W.OpenLaw} {w : World} {K : PySem.W.Frag} {h : Heap} {mg : Str → Option Value} {fa E_Unlike E_TooGreat : Addr} (m22 : exm K E_Unlike E_Unlike = some true) (m12 : exm K E_TooGreat E_Unlike = some false) (m11 : exm K E_TooGreat E_TooGreat = some true) (X : K.In h) (G : h.Ns mainGlobals mg) (hfa : mg "law" = some (.ref fa)) (T : Txt K mg E_Unlike E_TooGreat) (D0 : DefOf K mg "columns" s_columns) (D1 : DefOf K mg "first_item" s_first_item) (D2 : DefOf K mg "by_ranks" s_by_ranks) (D3 : DefOf K mg "by_length" s_by_length) (D4 : DefOf K mg "turned" s_turned) (D5 : DefOf K mg "pairs_from" s_pairs_from) (D6 : DefOf K mg "then" s_then) (D7 : DefOf K mg "_law_deck" s__law_deck) (D8 : DefOf K mg "_law_draw" s__law_draw) (D9 : DefOf K mg "_law_one" s__law_one) (D10 : DefOf K mg "_law_columns" s__law_columns) (D11 : DefOf K mg "_law_comp" s__law_comp) (D12 : DefOf K mg "_law_ranked" s__law_ranked) (D13 : DefOf K mg "_law_turned" s__law_turned) (D14 : DefOf K mg "_law_then" s__law_then) (D15 : DefOf K mg "_law_order" s__law_order) (D16 : DefOf K mg "_law_told" s__law_told) (D17 : DefOf K mg "_law_due" s__law_due) (D18 : DefOf K mg "law" s_law) :
    ∃ fd : FuncData, (∀ (s : Shared) (v : Value), BindsTo s fd ⟨[v], []⟩ [("_law_script", v)]) ∧ ∀ base : Heap, K.In base → base.Ns mainGlobals mg → SysB base → FnD l.prog w K mg base 4 fa fd ["_law_script"] spLaw := by
  obtain ⟨f, fd, F, hm⟩ := D18.ex
  have e := hfa.symm.trans hm
  cases e
  refine ⟨fd, ?_, fun base _ _ hB => ?_⟩
  · obtain ⟨oc, od, kV, dc, pm, an, cd, ct, osl, rfl, _, _⟩ := F.ex
    exact fun s v => .of_eq rfl
  have h__law_deck := mk__law_deck (P := l.prog) (w := w) D7 T hB (k := 0) deckOk
  have h__law_draw := mk__law_draw (P := l.prog) (w := w) D8 T hB (k := 0) draw2Ok
  have h__law_one := mk__law_one (P := l.prog) (w := w) D9 T hB h__law_draw spOne_len (fun ds S Q h => oneOk ds S Q h fun _ _ => fin.here)
  have h_columns := mk_columns (P := l.prog) (w := w) D0 T hB (k := 0) cols_len cols_ok
  have h_first_item := mk_first_item (P := l.prog) (w := w) D1 T hB (k := 0) first_len first_ok
  have h_by_ranks := mk_by_ranks (P := l.prog) (w := w) D2 T hB h_columns h_first_item ranks_len ranks_ok
  have h_by_length := mk_by_length (P := l.prog) (w := w) D3 T hB h_by_ranks length_len length_ok
  have h__law_columns := mk__law_columns (P := l.prog) (w := w) D10 T hB (k := 0) colsL_len colsL_ok
  have h__law_ranked := mk__law_ranked (P := l.prog) (w := w) D12 T hB h__law_columns ranked_len ranked_ok
  have h__law_comp := mk__law_comp (P := l.prog) (w := w) D11 T hB (h__law_columns.mono (by decide : 1 ≤ 2)) (h__law_draw.mono (by decide : 1 ≤ 2)) h__law_one comp_len comp_ok
  have h__law_turned := mk__law_turned (P := l.prog) (w := w) D13 T hB (k := 0) turned_len lturned_ok
  have h__law_then := mk__law_then (P := l.prog) (w := w) D14 T hB (k := 0) lthen_len lthen_ok
  have h__law_order := mk__law_order (P := l.prog) (w := w) D15 T hB (h__law_draw.mono (by decide : 1 ≤ 2)) h__law_one h__law_ranked (h__law_turned.mono (by decide : 1 ≤ 2)) (h__law_then.mono (by decide : 1 ≤ 2)) order_len order_ok
  have h_turned := mk_turned (P := l.prog) (w := w) D4 T hB (k := 0) turned_len turned_ok
  have h_pairs_from := mk_pairs_from (P := l.prog) (w := w) D5 T hB (k := 0) pf_len (pf_ok w)
  have h_then := mk_then (P := l.prog) (w := w) D6 T hB h_pairs_from then_len then_ok
  have h__law_told := mk__law_told (P := l.prog) (w := w) D16 T hB h_then told_len (told_ok m22 m12 m11)
  have h__law_due := mk__law_due (P := l.prog) (w := w) D17 T hB h__law_then told_len due_ok
  exact FnD.of F sc_law _ len_law (fun cdv A outer s H hr => dv_law T hB hr (h__law_deck.mono (by decide : 1 ≤ 3)) (h__law_draw.mono (by decide : 1 ≤ 3)) (h__law_one.mono (by decide : 2 ≤ 3)) (h_by_ranks.mono (by decide : 2 ≤ 3)) h_by_length (h__law_ranked.mono (by decide : 2 ≤ 3)) h__law_comp h__law_order (h_turned.mono (by decide : 1 ≤ 3)) (h__law_turned.mono (by decide : 1 ≤ 3)) h__law_told (h__law_due.mono (by decide : 2 ≤ 3)) (h__law_columns.mono (by decide : 1 ≤ 3))) hq_law
end K37
end

section
namespace K37
open PySem PySem.Spec PyProof.Rows L2 PD
theorem txt_mk {K : PySem.W.Frag} {h : Heap} {mg : Str → Option Value} (X : K.In h) (G : h.Ns mainGlobals mg) {t0 t1 t2 : Tok} (z0 : PySem.W.nsIn K mainGlobals "tuple" = some none) (z1 : PySem.W.nsIn K mainGlobals "dict" = some none) (z2 : PySem.W.nsIn K mainGlobals "zip" = some none) (z3 : PySem.W.nsIn K mainGlobals "len" = some none) (z4 : PySem.W.nsIn K mainGlobals "abs" = some none) (z5 : PySem.W.nsIn K mainGlobals "int" = some none) (z6 : PySem.W.nsIn K mainGlobals "range" = some none) (z7 : PySem.W.nsIn K mainGlobals "repr" = some none) (y0 : PySem.W.nsIn K mainGlobals "LETTERS" = some (some (.str "abc" t0))) (y1 : PySem.W.nsIn K mainGlobals "END" = some (some (.str "." t1))) (y2 : PySem.W.nsIn K mainGlobals "MAX_STANDS" = some (some (.int 60 t2))) {E_Unlike : Addr} (eg0 : PySem.W.nsIn K mainGlobals "Unlike" = some (some (.ref E_Unlike))) (ek0 : PySem.W.keepIn K (.ref E_Unlike) = true) (ex0 : PySem.W.excIn K E_Unlike [.type "ValueError", .type "Exception", .type "BaseException", .type "object"] "ValueError.__new__" = true) (es0 : PySem.W.subIn K (.ref E_Unlike) (.type "BaseException") = some true) (et0 : PySem.W.typeIn K (.ref E_Unlike) = some (.type "type")) {E_TooGreat : Addr} (eg1 : PySem.W.nsIn K mainGlobals "TooGreat" = some (some (.ref E_TooGreat))) (ek1 : PySem.W.keepIn K (.ref E_TooGreat) = true) (ex1 : PySem.W.excIn K E_TooGreat [.type "ValueError", .type "Exception", .type "BaseException", .type "object"] "ValueError.__new__" = true) (es1 : PySem.W.subIn K (.ref E_TooGreat) (.type "BaseException") = some true) (et1 : PySem.W.typeIn K (.ref E_TooGreat) = some (.type "type")) : Txt K mg E_Unlike E_TooGreat :=
  ⟨⟨PySem.W.mg_of X G eg0, ek0, ⟨_, _, _, _, PySem.F.excBase_ValueError, ex0⟩, es0, et0⟩, ⟨PySem.W.mg_of X G eg1, ek1, ⟨_, _, _, _, PySem.F.excBase_ValueError, ex1⟩, es1, et1⟩, PySem.W.mg_none_of X G z0, PySem.W.mg_none_of X G z1, PySem.W.mg_none_of X G z2, PySem.W.mg_none_of X G z3, PySem.W.mg_none_of X G z4, PySem.W.mg_none_of X G z5, PySem.W.mg_none_of X G z6, PySem.W.mg_none_of X G z7, ⟨_, PySem.W.mg_of X G y0⟩, ⟨_, PySem.W.mg_of X G y1⟩, ⟨_, PySem.W.mg_of X G y2⟩⟩
theorem _root_.PD.exm_mk {K : PySem.W.Frag} {C D : Addr} {b : Bool} (h1 : PySem.W.subIn K (.ref D) (.type "BaseException") = some true) (hd : PySem.W.hasDictIn K D = true) (ht : PySem.W.typeIn K (.ref D) = some (.type "type")) (h4 : PySem.W.subIn K (.ref C) (.ref D) = some b) : PD.exm K C D = some b := PySem.W.exm_ref h1 hd ht h4
theorem room : RoomG 4 callerA := ⟨⟨rfl, by decide, by decide⟩, rfl⟩
end K37
open PySem PySem.W PyProof.Rows in
set_option maxRecDepth 100000 in
set_option maxHeartbeats 0 in
theorem PySem.Challenge.cw_sortedshelves_k37_made_comparisons_holds : PySem.Challenge.rw_sortedshelves_k37_made_comparisons.Holds := by
  w_on; o_law; k_head; (case hw => w_witness2)
  k_fill
  refine PD.walk_D (l := PySem.Challenge.rw_sortedshelves_k37_made_comparisons) (x := "_law_script") rfl rfl K37.room ?imp (fun w h Y => PySem.W.kIn_of Y) ?F
  case imp => decide +kernel
  case F =>
    intro w mg fa h KX G hmg
    refine' K37.all_ok ?m22 ?m12 ?m11 KX G hmg (K37.txt_mk KX G ?z0 ?z1 ?z2 ?z3 ?z4 ?z5 ?z6 ?z7 ?y0 ?y1 ?y2 ?eg0 ?ek0 ?ex0 ?es0 ?et0 ?eg1 ?ek1 ?ex1 ?es1 ?et1) (PD.defOf_mk (x := "columns") (st := K37.s_columns) KX G ?a0 ?l0 ?c0 ?k0) (PD.defOf_mk (x := "first_item") (st := K37.s_first_item) KX G ?a1 ?l1 ?c1 ?k1) (PD.defOf_mk (x := "by_ranks") (st := K37.s_by_ranks) KX G ?a2 ?l2 ?c2 ?k2) (PD.defOf_mk (x := "by_length") (st := K37.s_by_length) KX G ?a3 ?l3 ?c3 ?k3) (PD.defOf_mk (x := "turned") (st := K37.s_turned) KX G ?a4 ?l4 ?c4 ?k4) (PD.defOf_mk (x := "pairs_from") (st := K37.s_pairs_from) KX G ?a5 ?l5 ?c5 ?k5) (PD.defOf_mk (x := "then") (st := K37.s_then) KX G ?a6 ?l6 ?c6 ?k6) (PD.defOf_mk (x := "_law_deck") (st := K37.s__law_deck) KX G ?a7 ?l7 ?c7 ?k7) (PD.defOf_mk (x := "_law_draw") (st := K37.s__law_draw) KX G ?a8 ?l8 ?c8 ?k8) (PD.defOf_mk (x := "_law_one") (st := K37.s__law_one) KX G ?a9 ?l9 ?c9 ?k9) (PD.defOf_mk (x := "_law_columns") (st := K37.s__law_columns) KX G ?a10 ?l10 ?c10 ?k10) (PD.defOf_mk (x := "_law_comp") (st := K37.s__law_comp) KX G ?a11 ?l11 ?c11 ?k11) (PD.defOf_mk (x := "_law_ranked") (st := K37.s__law_ranked) KX G ?a12 ?l12 ?c12 ?k12) (PD.defOf_mk (x := "_law_turned") (st := K37.s__law_turned) KX G ?a13 ?l13 ?c13 ?k13) (PD.defOf_mk (x := "_law_then") (st := K37.s__law_then) KX G ?a14 ?l14 ?c14 ?k14) (PD.defOf_mk (x := "_law_order") (st := K37.s__law_order) KX G ?a15 ?l15 ?c15 ?k15) (PD.defOf_mk (x := "_law_told") (st := K37.s__law_told) KX G ?a16 ?l16 ?c16 ?k16) (PD.defOf_mk (x := "_law_due") (st := K37.s__law_due) KX G ?a17 ?l17 ?c17 ?k17) (PD.defOf_mk (x := "law") (st := K37.s_law) KX G ?a18 ?l18 ?c18 ?k18)
    (case z0 => k_is)
    (case z1 => k_is)
    (case z2 => k_is)
    (case z3 => k_is)
    (case z4 => k_is)
    (case z5 => k_is)
    (case z6 => k_is)
    (case z7 => k_is)
    (case y0 => k_is)
    (case y1 => k_is)
    (case y2 => k_is)
    (case eg0 => k_is); (case ek0 => k_is); (case ex0 => k_exc); (case es0 => k_is); (case et0 => k_is)
    (case eg1 => k_is); (case ek1 => k_is); (case ex1 => k_exc); (case es1 => k_is); (case et1 => k_is)
    (case m22 => exact PD.exm_mk (by k_is) (by k_is) (by k_is) (by first | rfl | k_is))
    (case m12 => exact PD.exm_mk (by k_is) (by k_is) (by k_is) (by first | rfl | k_is))
    (case m11 => exact PD.exm_mk (by k_is) (by k_is) (by k_is) (by first | rfl | k_is))
    (case a0 => k_is)
    (case l0 => k_is)
    (case c0 => k_is)
    (case k0 => k_is)
    (case a1 => k_is)
    (case l1 => k_is)
    (case c1 => k_is)
    (case k1 => k_is)
    (case a2 => k_is)
    (case l2 => k_is)
    (case c2 => k_is)
    (case k2 => k_is)
    (case a3 => k_is)
    (case l3 => k_is)
    (case c3 => k_is)
    (case k3 => k_is)
    (case a4 => k_is)
    (case l4 => k_is)
    (case c4 => k_is)
    (case k4 => k_is)
    (case a5 => k_is)
    (case l5 => k_is)
    (case c5 => k_is)
    (case k5 => k_is)
    (case a6 => k_is)
    (case l6 => k_is)
    (case c6 => k_is)
    (case k6 => k_is)
    (case a7 => k_is)
    (case l7 => k_is)
    (case c7 => k_is)
    (case k7 => k_is)
    (case a8 => k_is)
    (case l8 => k_is)
    (case c8 => k_is)
    (case k8 => k_is)
    (case a9 => k_is)
    (case l9 => k_is)
    (case c9 => k_is)
    (case k9 => k_is)
    (case a10 => k_is)
    (case l10 => k_is)
    (case c10 => k_is)
    (case k10 => k_is)
    (case a11 => k_is)
    (case l11 => k_is)
    (case c11 => k_is)
    (case k11 => k_is)
    (case a12 => k_is)
    (case l12 => k_is)
    (case c12 => k_is)
    (case k12 => k_is)
    (case a13 => k_is)
    (case l13 => k_is)
    (case c13 => k_is)
    (case k13 => k_is)
    (case a14 => k_is)
    (case l14 => k_is)
    (case c14 => k_is)
    (case k14 => k_is)
    (case a15 => k_is)
    (case l15 => k_is)
    (case c15 => k_is)
    (case k15 => k_is)
    (case a16 => k_is)
    (case l16 => k_is)
    (case c16 => k_is)
    (case k16 => k_is)
    (case a17 => k_is)
    (case l17 => k_is)
    (case c17 => k_is)
    (case k17 => k_is)
    (case a18 => k_is)
    (case l18 => k_is)
    (case c18 => k_is)
    (case k18 => k_is)
end
