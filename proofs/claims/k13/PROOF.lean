import PyProof.Rows.All
import Wide.All
import OpenK.AllK
import Wide.FinOn
import HandS.ForMost
import HandS.IsInst
import HandS.Flow
import HandS.TupAny
import HandS.TupMul
import HandS.Deep
import HandS.Zip
import HandS.Wide
import KE.KDictDisplayH
import HandS.Lambda
import HandS.Style
import HandS.Exc
import PyProof.NeData
import PyProof.StrLawsRepr
import PyProof.Rows.StrJoinMade
import PyProof.ReprRoads
import PyProof.CallFns
import PyProof.Rows.StrDigitsNeg
import KE.GoesEnum
import KE.GoesZip
import HandS.StrMore
import HandS.Small
import HandS.DictComp
import KE.KDictCopyH
import HandS.TupLen
import HandS.SetKeys
import HandS.Conv
import HandS.NoneIn
import HandS.TryMany
import HandS.ExcOwn
import PyProof.Rows.StrPadFill
import HandS.EndTab
import HandS.Strs
import KE.KEqNest
import PyProof.TupleOfStr
import KE.DataEq
import PyProof.SeqIndex
import KE.KDictZip
import KE.KDictWalk
import KE.GoesMore
import KE.DataMinMax
import HandS.OwnEq
import KE.KDictItemsList
import KE.DataCmp
import PyProof.ListRange
import PySem.Challenge.RW_sortedshelves_k13_smallest_machines
set_option Elab.async false
set_option linter.all false
set_option maxRecDepth 100000
set_option maxHeartbeats 4000000
section
/-! PD1: deep values over the hand layer. -/
namespace PD
open PySem PySem.Spec PyProof.Rows L2
/-- deep values: tuples, frozen lists and dicts are plain data; what may change is a reference; the deck of draws is one opaque value -/
inductive D where
  | non | bl (b : Bool) | int (i : Int) | str (x : Str)
  | tup (xs : List D) | lst (xs : List D) | dic (kvs : List (D × D))
  | ref (a : Addr) | ty (n : String) | deck
/-- what a lambda is made of -/
structure LamI where
  qual : Str
  params : Arguments
  body : Expr
  scope : Scope
/-- what may change; a table of code objects (all of the name q); a function made of a lambda, its cells and what they hold -/
inductive OD where
  | lst (xs : List D) | dic (kvs : List (D × D)) | ins (C : Addr) (fs : List (Str × D)) | dct (w : World) (kvs : List (D × D)) | dcl (w : World) (o : Obj) (xs : List (NestedKey × Addr × Value)) (kvs : List (D × D))
  | tab (q : Str) | clo (L : LamI) (cl : List (Str × Addr)) (cs : List (Str × D))
/-- the very object o at a: functions made of lambdas, and their cells -/
abbrev KnO (a : Addr) (o : Obj) : HO := .frz o (.own a)
def Kn : HO → Prop
  | .frz _ (.own _) => True
  | _ => False
def LamI.obj (L : LamI) (cl : List (Str × Addr)) (pm : Value) (c' : Addr) (ctv : Value) : Obj := PySem.W.kla_obj "<lambda>" L.qual L.params L.body L.scope cl pm c' ctv
/-- the deep heap: tracked objects, a bound on the draws so far, where the deck stands -/
structure HD where
  hp : Addr → Option OD
  c : Nat
  dk : Option (Addr × Addr)
def HD.set (S : HD) (a : Addr) (o : OD) : HD := { S with hp := fun b => if b = a then some o else S.hp b }
def HD.del (S : HD) (a : Addr) : HD := { S with hp := fun b => if b = a then none else S.hp b }
def HD.tick (S : HD) (n : Nat) : HD := { S with c := S.c + n }
@[simp] theorem HD.set_same {S : HD} {a : Addr} {o : OD} : (S.set a o).hp a = some o := by simp [HD.set]
theorem HD.set_ne {S : HD} {a b : Addr} {o : OD} (h : b ≠ a) : (S.set a o).hp b = S.hp b := by simp [HD.set, h]
@[simp] theorem HD.set_set {S : HD} {a : Addr} {o u : OD} : (S.set a o).set a u = S.set a u := by
  unfold HD.set; congr 1; funext b; by_cases h : b = a <;> simp [h]
@[simp] theorem HD.set_dk {S : HD} {a : Addr} {o : OD} : (S.set a o).dk = S.dk := rfl
@[simp] theorem HD.set_c {S : HD} {a : Addr} {o : OD} : (S.set a o).c = S.c := rfl
@[simp] theorem HD.tick_hp {S : HD} {n : Nat} : (S.tick n).hp = S.hp := rfl
@[simp] theorem HD.tick_dk {S : HD} {n : Nat} : (S.tick n).dk = S.dk := rfl
@[simp] theorem HD.tick_c {S : HD} {n : Nat} : (S.tick n).c = S.c + n := rfl
def Dk (S : HD) (a : Addr) : Prop := ∃ p, S.dk = some p ∧ (a = p.1 ∨ a = p.2)
/-- a may be named by frozen data -/
def Fz (G : Addr → Prop) (S : HD) (a : Addr) : Prop := S.hp a = none ∧ ¬ Dk S a ∧ ¬ G a
/-- from one state to a later one: what was not tracked stands as it stood -/
structure FL (S : HD) (H : Hp) (S' : HD) (H' : Hp) : Prop where
  kp : ∀ a o, H a = some o → S.hp a = none → ¬ Dk S a → S'.hp a = none ∧ ¬ Dk S' a ∧ H' a = some o
  dk : ∀ p, S.dk = some p → S'.dk = some p
theorem FL.refl (S : HD) (H : Hp) : FL S H S H := ⟨fun _ _ h n d => ⟨n, d, h⟩, fun _ h => h⟩
theorem FL.trans {S S1 S2 : HD} {H H1 H2 : Hp} (a : FL S H S1 H1) (b : FL S1 H1 S2 H2) : FL S H S2 H2 :=
  ⟨fun c o h n d => let ⟨n1, d1, h1⟩ := a.kp c o h n d; b.kp c o h1 n1 d1, fun p h => b.dk p (a.dk p h)⟩
def KT (K : PySem.W.Frag) (a : Addr) (xs : List V) : Prop :=
  ∃ (o : Obj) (its : Array Value) (n : Nat), K.lookup a = some o ∧ o.cls = .type "tuple" ∧ o.data = .seq its n ∧ its.size ≤ sizeLine ∧ Vals xs its.toList
def KL (K : PySem.W.Frag) (a : Addr) (xs : List V) : Prop :=
  ∃ (o : Obj) (its : Array Value) (n : Nat), K.lookup a = some o ∧ o.cls = .type "list" ∧ o.dict = none ∧ o.data = .seq its n ∧ its.size ≤ sizeLine ∧ Vals xs its.toList
variable (K : PySem.W.Frag) (G : Addr → Prop) (S : HD) (H : Hp) in
def FzT (a : Addr) (xs : List V) : Prop := (Fz G S a ∧ Rd H a (.tup xs)) ∨ KT K a xs
variable (K : PySem.W.Frag) (G : Addr → Prop) (S : HD) (H : Hp) in
def FzL (a : Addr) (xs : List V) : Prop := (Fz G S a ∧ Rd H a (.lst xs)) ∨ KL K a xs
variable (G : Addr → Prop) (S : HD) (H : Hp) in
def FzD (a : Addr) (kvs : List (Key × V)) : Prop := Fz G S a ∧ Rd H a (.dK kvs)
def kD : Key → D
  | .inl i => .int i
  | .inr x => .str x
section
variable (K : PySem.W.Frag) (G : Addr → Prop) (S : HD) (H : Hp)
mutual
inductive RD : D → V → Prop
  | non : RD .non .non
  | bl (b : Bool) : RD (.bl b) (.bl b)
  | int (i : Int) : RD (.int i) (.int i)
  | str (x : Str) : RD (.str x) (.str x)
  | ty (n : String) : RD (.ty n) (.ty n)
  | ref (a : Addr) : RD (.ref a) (.ref a)
  | tup {a : Addr} {vs : List V} {ds : List D} (h : FzT K G S H a vs) (r : RDs ds vs) : RD (.tup ds) (.ref a)
  | lst {a : Addr} {vs : List V} {ds : List D} (h : FzL K G S H a vs) (r : RDs ds vs) : RD (.lst ds) (.ref a)
  | dic {a : Addr} {kvs : List (Key × V)} {kds : List (D × D)} (h : FzD G S H a kvs) (r : RDk kds kvs) : RD (.dic kds) (.ref a)
  | deck {a b : Addr} (h : S.dk = some (a, b)) : RD .deck (.ref a)
inductive RDs : List D → List V → Prop
  | nil : RDs [] []
  | cons {d : D} {v : V} {ds : List D} {vs : List V} (h : RD d v) (r : RDs ds vs) : RDs (d :: ds) (v :: vs)
inductive RDk : List (D × D) → List (Key × V) → Prop
  | nil : RDk [] []
  | cons {k : Key} {d : D} {v : V} {kds : List (D × D)} {kvs : List (Key × V)} (h : RD d v) (r : RDk kds kvs) : RDk ((kD k, d) :: kds) ((k, v) :: kvs)
end
end
section
variable {K : PySem.W.Frag} {G G' : Addr → Prop} {S S' : HD} {H H' : Hp}
/-- frozen addresses of one state are frozen in another one, with the same objects -/
structure Mv (G : Addr → Prop) (S : HD) (H : Hp) (G' : Addr → Prop) (S' : HD) (H' : Hp) : Prop where
  kp : ∀ a o, H a = some o → Fz G S a → Fz G' S' a ∧ H' a = some o
  dk : ∀ p, S.dk = some p → S'.dk = some p
/-- the same, but for what is known to the object -/
structure Mv0 (G : Addr → Prop) (S : HD) (H : Hp) (G' : Addr → Prop) (S' : HD) (H' : Hp) : Prop where
  kp : ∀ a o, H a = some o → ¬ Kn o → Fz G S a → Fz G' S' a ∧ H' a = some o
  dk : ∀ p, S.dk = some p → S'.dk = some p
theorem Mv.m0 (m : Mv G S H G' S' H') : Mv0 G S H G' S' H' := ⟨fun a o e _ z => m.kp a o e z, m.dk⟩
theorem FL.mv (f : FL S H S' H') : Mv G S H G S' H' :=
  ⟨fun a o h z => let ⟨n, d, e⟩ := f.kp a o h z.1 z.2.1; ⟨⟨n, d, z.2.2⟩, e⟩, f.dk⟩
theorem Mv0.rd (m : Mv0 G S H G' S' H') {a : Addr} {o : HO} (nk : ¬ Kn o) (nk2 : ∀ u, ¬ Kn (.frz u o)) (h : Fz G S a ∧ Rd H a o) : Fz G' S' a ∧ Rd H' a o := by
  obtain ⟨z, r⟩ := h
  rcases r with r | ⟨u, r⟩
  · obtain ⟨z', e⟩ := m.kp a _ r nk z; exact ⟨z', .inl e⟩
  · obtain ⟨z', e⟩ := m.kp a _ r (nk2 u) z; exact ⟨z', .inr ⟨u, e⟩⟩
mutual
theorem RD.mv0 (m : Mv0 G S H G' S' H') : ∀ {d : D} {v : V}, RD K G S H d v → RD K G' S' H' d v
  | _, _, .non => .non
  | _, _, .bl b => .bl b
  | _, _, .int i => .int i
  | _, _, .str x => .str x
  | _, _, .ty n => .ty n
  | _, _, .ref a => .ref a
  | _, _, .tup h r => .tup (h.imp (fun z => m.rd id (fun _ => id) z) id) (RDs.mv0 m r)
  | _, _, .lst h r => .lst (h.imp (fun z => m.rd id (fun _ => id) z) id) (RDs.mv0 m r)
  | _, _, .dic h r => .dic (m.rd id (fun _ => id) h) (RDk.mv0 m r)
  | _, _, .deck h => .deck (m.dk _ h)
theorem RDs.mv0 (m : Mv0 G S H G' S' H') : ∀ {ds : List D} {vs : List V}, RDs K G S H ds vs → RDs K G' S' H' ds vs
  | _, _, .nil => .nil
  | _, _, .cons h r => .cons (RD.mv0 m h) (RDs.mv0 m r)
theorem RDk.mv0 (m : Mv0 G S H G' S' H') : ∀ {ds : List (D × D)} {vs : List (Key × V)}, RDk K G S H ds vs → RDk K G' S' H' ds vs
  | _, _, .nil => .nil
  | _, _, .cons h r => .cons (RD.mv0 m h) (RDk.mv0 m r)
end
theorem Mv.rd (m : Mv G S H G' S' H') {a : Addr} {o : HO} (h : Fz G S a ∧ Rd H a o) : Fz G' S' a ∧ Rd H' a o := by
  obtain ⟨z, r⟩ := h
  rcases r with r | ⟨u, r⟩
  · obtain ⟨z', e⟩ := m.kp a _ r z; exact ⟨z', .inl e⟩
  · obtain ⟨z', e⟩ := m.kp a _ r z; exact ⟨z', .inr ⟨u, e⟩⟩
theorem RD.mv (m : Mv G S H G' S' H') {d : D} {v : V} (r : RD K G S H d v) : RD K G' S' H' d v := r.mv0 m.m0
theorem RDs.mv (m : Mv G S H G' S' H') {ds : List D} {vs : List V} (r : RDs K G S H ds vs) : RDs K G' S' H' ds vs := r.mv0 m.m0
theorem RDk.mv (m : Mv G S H G' S' H') {ds : List (D × D)} {vs : List (Key × V)} (r : RDk K G S H ds vs) : RDk K G' S' H' ds vs := r.mv0 m.m0
theorem RD.fl (f : FL S H S' H') {d : D} {v : V} (r : RD K G S H d v) : RD K G S' H' d v := r.mv f.mv
theorem RDs.fl (f : FL S H S' H') {d : List D} {v : List V} (r : RDs K G S H d v) : RDs K G S' H' d v := r.mv f.mv
theorem RDs.length : ∀ {ds : List D} {vs : List V}, RDs K G S H ds vs → ds.length = vs.length
  | _, _, .nil => rfl
  | _, _, .cons _ r => by simp [RDs.length r]
theorem RDs.append : ∀ {ds es : List D} {vs ws : List V}, RDs K G S H ds vs → RDs K G S H es ws → RDs K G S H (ds ++ es) (vs ++ ws)
  | _, _, _, _, .nil, s => s
  | _, _, _, _, .cons h r, s => .cons h (RDs.append r s)
theorem RDs.get : ∀ {ds : List D} {vs : List V} {i : Nat} {d : D}, RDs K G S H ds vs → ds[i]? = some d → ∃ v, vs[i]? = some v ∧ RD K G S H d v
  | _, _, _, _, .nil, e => by simp at e
  | _, _, 0, _, .cons h _, e => by simp at e; subst e; exact ⟨_, rfl, h⟩
  | _, _, i + 1, d, .cons _ r, e => by
    obtain ⟨u, h1, h2⟩ := RDs.get (i := i) (d := d) r (by simpa using e)
    exact ⟨u, by simpa using h1, h2⟩
theorem RDs.take : ∀ {ds : List D} {vs : List V} (n : Nat), RDs K G S H ds vs → RDs K G S H (ds.take n) (vs.take n)
  | _, _, 0, _ => .nil
  | _, _, _ + 1, .nil => .nil
  | _, _, n + 1, .cons h r => .cons h (RDs.take n r)
theorem RDs.drop : ∀ {ds : List D} {vs : List V} (n : Nat), RDs K G S H ds vs → RDs K G S H (ds.drop n) (vs.drop n)
  | _, _, 0, r => r
  | _, _, _ + 1, .nil => .nil
  | _, _, n + 1, .cons _ r => RDs.drop n r
theorem RDs.set {d : D} {v : V} (h : RD K G S H d v) : ∀ {ds : List D} {vs : List V} (i : Nat), RDs K G S H ds vs → RDs K G S H (ds.set i d) (vs.set i v)
  | _, _, _, .nil => .nil
  | _, _, 0, .cons _ r => .cons h r
  | _, _, i + 1, .cons h' r => .cons h' (RDs.set h i r)
theorem RDs.rev : ∀ {ds : List D} {vs : List V}, RDs K G S H ds vs → RDs K G S H ds.reverse vs.reverse
  | _, _, .nil => .nil
  | _, _, .cons h r => by rw [List.reverse_cons, List.reverse_cons]; exact (RDs.rev r).append (.cons h .nil)
theorem RDs.ints : ∀ (ns : List Int), RDs K G S H (ns.map D.int) (ns.map V.int)
  | [] => .nil
  | n :: ns => .cons (.int n) (RDs.ints ns)
theorem RDs.rep {d : D} {v : V} (h : RD K G S H d v) : ∀ n : Nat, RDs K G S H (List.replicate n d) (List.replicate n v)
  | 0 => .nil
  | n + 1 => .cons h (RDs.rep h n)
/-! a deep value as a key -/
mutual
def nkOf : D → Option NestedKey
  | .non => some .none
  | .bl b => some (.num (if b = true then 1 else 0))
  | .int i => some (.num i)
  | .str x => some (.text x)
  | .tup xs => (nksOf xs).map .tup
  | _ => none
def nksOf : List D → Option (List NestedKey)
  | [] => some []
  | d :: r => (nkOf d).bind fun k => (nksOf r).map (k :: ·)
end
/-- a dict whose keys are tuples, as it lies in the heap -/
def RawT (w : World) (a : Addr) (xs : List (NestedKey × Addr × Value)) : Heap → Prop := fun h => ∃ o es ep, h.get? a = some o ∧ o.ExactDict ∧ o.data = .dict es ep ∧
  es.toList = xs.map (fun x => ⟨x.1.hash w, .ref x.2.1, x.2.2⟩) ∧ (xs.map (·.1)).Nodup ∧ (a == sysModules) = false ∧ xs.length ≤ sizeLine
section
variable (K : PySem.W.Frag) (G : Addr → Prop) (S : HD) (H : Hp)
inductive RDt : List (D × D) → List (NestedKey × Addr × Value) → Prop
  | nil : RDt [] []
  | cons {kd d : D} {nk : NestedKey} {b : Addr} {v : V} {u : Value} {kds : List (D × D)} {xs : List (NestedKey × Addr × Value)} (hk : RD K G S H kd (.ref b)) (hn : nkOf kd = some nk) (hd : nk.depth ≤ 8) (hv : RelV v u) (h : RD K G S H d v) (r : RDt kds xs) :
      RDt ((kd, d) :: kds) ((nk, b, u) :: xs)
end
theorem RDt.mv0 (m : Mv0 G S H G' S' H') : ∀ {kds : List (D × D)} {xs : List (NestedKey × Addr × Value)}, RDt K G S H kds xs → RDt K G' S' H' kds xs
  | _, _, .nil => .nil
  | _, _, .cons hk hn hd hv h r => .cons (hk.mv0 m) hn hd hv (h.mv0 m) (RDt.mv0 m r)
theorem RDt.mv (m : Mv G S H G' S' H') {kds : List (D × D)} {xs : List (NestedKey × Addr × Value)} (r : RDt K G S H kds xs) : RDt K G' S' H' kds xs := r.mv0 m.m0
/-- a table: each code object in it bears the name q -/
def TabAt (G : Addr → Prop) (S : HD) (H : Hp) (P : Addr) (q : Str) : Prop := ∃ ps : Array Value, H P = some (.tbl ps) ∧ TriplesOk ps.toList ∧ ∀ (pos : Pos) (cv : Value), codeAmong pos ps.toList = some cv → ∃ c, cv = .ref c ∧ Fz G S c ∧ H c = some (LamX.CodeO c q)
theorem TabAt.mv0 (m : Mv0 G S H G' S' H') {P : Addr} {q : Str} (e : H' P = H P) (t : TabAt G S H P q) : TabAt G' S' H' P q := by
  obtain ⟨ps, h1, h2, h3⟩ := t
  refine ⟨ps, e.trans h1, h2, fun pos cv hc => ?_⟩
  obtain ⟨c, e1, z, e2⟩ := h3 pos cv hc
  exact ⟨c, e1, (m.kp c _ e2 id z).1, (m.kp c _ e2 id z).2⟩
/-- what the cell of the name y holds -/
def CapAt (K : PySem.W.Frag) (G : Addr → Prop) (S : HD) (H : Hp) (cl : List (Str × Addr)) (y : Str) (d : D) : Prop :=
  ∃ c o u v, cl.lookup y = some c ∧ Fz G S c ∧ H c = some (KnO c o) ∧ o.data = .cell (some u) ∧ RelV v u ∧ RD K G S H d v
theorem CapAt.mv (m : Mv G S H G' S' H') {cl : List (Str × Addr)} {y : Str} {d : D} (t : CapAt K G S H cl y d) : CapAt K G' S' H' cl y d := by
  obtain ⟨c, o, u, v, h1, z, h2, h3, h4, h5⟩ := t
  exact ⟨c, o, u, v, h1, (m.kp c _ h2 z).1, (m.kp c _ h2 z).2, h3, h4, h5.mv m⟩
structure CloAt (K : PySem.W.Frag) (G : Addr → Prop) (S : HD) (H : Hp) (a : Addr) (L : LamI) (cl : List (Str × Addr)) (cs : List (Str × D)) : Prop where
  fn : ∃ c' pm ctv, H a = some (KnO a (L.obj cl pm c' ctv)) ∧ Fz G S c' ∧ H c' = some (LamX.CodeO c' L.qual)
  cap : ∀ y d, cs.lookup y = some d → CapAt K G S H cl y d
  cell : ∀ y c, cl.lookup y = some c → ∃ d, cs.lookup y = some d
  inj : ∀ x y c, cl.lookup x = some c → cl.lookup y = some c → x = y
  free : ∀ y, L.scope.names.lookup y = some .free → ∃ c, cl.lookup y = some c
theorem CloAt.mv (m : Mv G S H G' S' H') {a : Addr} {L : LamI} {cl : List (Str × Addr)} {cs : List (Str × D)} (e : H' a = H a) (t : CloAt K G S H a L cl cs) : CloAt K G' S' H' a L cl cs :=
  ⟨let ⟨c', pm, ctv, h1, z, h2⟩ := t.fn; ⟨c', pm, ctv, e.trans h1, (m.kp c' _ h2 z).1, (m.kp c' _ h2 z).2⟩, fun y d h => (t.cap y d h).mv m, t.cell, t.inj, t.free⟩
def ROD (K : PySem.W.Frag) (G : Addr → Prop) (S : HD) (H : Hp) (a : Addr) : OD → Prop
  | .tab q => TabAt G S H a q
  | .clo L cl cs => CloAt K G S H a L cl cs
  | .lst ds => ∃ vs, H a = some (.lst vs) ∧ RDs K G S H ds vs
  | .dic kds => ∃ kvs, H a = some (.dK kvs) ∧ RDk K G S H kds kvs
  | .ins C fs => ∃ dx vs, H a = some (.ins C dx vs) ∧ fs.map (·.1) = vs.map (·.1) ∧ RDs K G S H (fs.map (·.2)) (vs.map (·.2))
  | .dct w kds => ∃ xs, H a = some (.ext (RawT w a xs)) ∧ RDt K G S H kds xs
  | .dcl w o xs kds => H a = some (.frz o (.ext (RawT w a xs))) ∧ RDt K G S H kds xs
theorem ROD.there {a : Addr} {o : OD} (r : ROD K G S H a o) : ∃ u, H a = some u := by
  cases o with
  | lst ds => obtain ⟨_, e, _⟩ := r; exact ⟨_, e⟩
  | dic ds => obtain ⟨_, e, _⟩ := r; exact ⟨_, e⟩
  | ins C fs => obtain ⟨_, _, e, _⟩ := r; exact ⟨_, e⟩
  | dct w fs => obtain ⟨_, e, _⟩ := r; exact ⟨_, e⟩
  | dcl w o xs fs => exact ⟨_, r.1⟩
  | tab q => obtain ⟨_, e, _⟩ := r; exact ⟨_, e⟩
  | clo L cl cs => obtain ⟨_, _, _, e, _⟩ := r.fn; exact ⟨_, e⟩
theorem ROD.mv (m : Mv G S H G' S' H') {a : Addr} {o : OD} (e : H' a = H a) (r : ROD K G S H a o) : ROD K G' S' H' a o := by
  cases o with
  | lst ds => obtain ⟨vs, e1, q⟩ := r; exact ⟨vs, e.trans e1, q.mv m⟩
  | dic ds => obtain ⟨vs, e1, q⟩ := r; exact ⟨vs, e.trans e1, q.mv m⟩
  | ins C fs => obtain ⟨dx, vs, e1, k, q⟩ := r; exact ⟨dx, vs, e.trans e1, k, q.mv m⟩
  | dct w fs => obtain ⟨xs, e1, q⟩ := r; exact ⟨xs, e.trans e1, q.mv m⟩
  | dcl w o xs fs => obtain ⟨e1, q⟩ := r; exact ⟨e.trans e1, q.mv m⟩
  | tab q => exact TabAt.mv0 m.m0 e r
  | clo L cl cs => exact CloAt.mv m e r
def OD.isClo : OD → Bool
  | .clo _ _ _ => true
  | _ => false
theorem ROD.mv0 (m : Mv0 G S H G' S' H') {a : Addr} {o : OD} (n : o.isClo = false) (e : H' a = H a) (r : ROD K G S H a o) : ROD K G' S' H' a o := by
  cases o with
  | lst ds => obtain ⟨vs, e1, q⟩ := r; exact ⟨vs, e.trans e1, q.mv0 m⟩
  | dic ds => obtain ⟨vs, e1, q⟩ := r; exact ⟨vs, e.trans e1, q.mv0 m⟩
  | ins C fs => obtain ⟨dx, vs, e1, k, q⟩ := r; exact ⟨dx, vs, e.trans e1, k, q.mv0 m⟩
  | dct w fs => obtain ⟨xs, e1, q⟩ := r; exact ⟨xs, e.trans e1, q.mv0 m⟩
  | dcl w o xs fs => obtain ⟨e1, q⟩ := r; exact ⟨e.trans e1, q.mv0 m⟩
  | tab q => exact TabAt.mv0 m e r
  | clo L cl cs => cases n
/-- the deck as it stands: the cells and how many draws were made -/
def DeckAt (H : Hp) (a b : Addr) (c : Nat) : Prop :=
  ∃ (cells : List Int) (n : Nat), H a = some (.lst [.ref b, .int (n : Int)]) ∧ H b = some (.lst (cells.map V.int)) ∧ n ≤ c ∧ cells.length ≤ 63 ∧ ∀ z ∈ cells, 0 ≤ z
structure RH (K : PySem.W.Frag) (G : Addr → Prop) (S : HD) (H : Hp) : Prop where
  hp : ∀ a o, S.hp a = some o → ¬ Dk S a ∧ ¬ G a ∧ ROD K G S H a o
  rs : ∀ a, G a → (∃ o, H a = some o) ∧ ¬ Dk S a
  dk : ∀ a b, S.dk = some (a, b) → a ≠ b ∧ S.hp a = none ∧ S.hp b = none ∧ DeckAt H a b S.c
theorem RH.fresh (r : RH K G S H) {a : Addr} (h : H a = none) : S.hp a = none ∧ ¬ Dk S a ∧ ¬ G a := by
  refine ⟨?_, ?_, ?_⟩
  · cases e : S.hp a with
    | none => rfl
    | some o =>
      obtain ⟨u, q⟩ := (r.hp a o e).2.2.there
      rw [h] at q; cases q
  · rintro ⟨p, e, hp⟩
    obtain ⟨_, _, _, _, _, e1, e2, _⟩ := r.dk p.1 p.2 e
    rcases hp with z | z
    · rw [z, e1] at h; cases h
    · rw [z, e2] at h; cases h
  · intro g
    obtain ⟨⟨o, e⟩, _⟩ := r.rs a g
    rw [h] at e; cases e
/-- the heap has grown, nothing else -/
structure Grow (H H' : Hp) : Prop where
  kp : ∀ a o, H a = some o → H' a = some o
theorem Grow.upd {H : Hp} {p : Addr} {o : HO} (h : H p = none) : Grow H (upd H p o) := ⟨fun a u e => by rw [upd_ne (ne_of_none e h)]; exact e⟩
theorem Grow.fl (g : Grow H H') : FL S H S H' := ⟨fun a o h n d => ⟨n, d, g.kp a o h⟩, fun _ h => h⟩
theorem RH.grow (r : RH K G S H) (g : Grow H H') : RH K G S H' where
  hp := fun a o e => by
    obtain ⟨h1, h2, h3⟩ := r.hp a o e
    obtain ⟨u, q⟩ := h3.there
    exact ⟨h1, h2, h3.mv g.fl.mv ((g.kp a u q).trans q.symm)⟩
  rs := fun a h => let ⟨⟨o, e⟩, d⟩ := r.rs a h; ⟨⟨o, g.kp a o e⟩, d⟩
  dk := fun a b e => by
    obtain ⟨h1, h2, h3, cs, n, h4, h5, h6⟩ := r.dk a b e
    exact ⟨h1, h2, h3, cs, n, g.kp _ _ h4, g.kp _ _ h5, h6⟩
/-- a new object that is to be frozen -/
theorem RH.newF (r : RH K G S H) {p : Addr} (h : H p = none) (o : HO) : RH K G S (upd H p o) ∧ FL S H S (upd H p o) ∧ Fz G S p :=
  ⟨r.grow (.upd h), (Grow.upd h).fl, r.fresh h⟩
theorem RH.newT (r : RH K G S H) {p : Addr} (h : H p = none) {ds : List D} {vs : List V} (rs : RDs K G S H ds vs) : RD K G S (L2.upd H p (.tup vs)) (.tup ds) (.ref p) :=
  .tup (.inl ⟨r.fresh h, .inl upd_same⟩) (rs.fl (Grow.upd h).fl)
theorem RH.newL (r : RH K G S H) {p : Addr} (h : H p = none) {ds : List D} {vs : List V} (rs : RDs K G S H ds vs) : RD K G S (L2.upd H p (.lst vs)) (.lst ds) (.ref p) :=
  .lst (.inl ⟨r.fresh h, .inl upd_same⟩) (rs.fl (Grow.upd h).fl)
/-- a new object that is to be tracked -/
theorem RH.newR (r : RH K G S H) {p : Addr} (h : H p = none) {o : OD} {ho : HO} (q : ROD K G (S.set p o) (upd H p ho) p o) :
    RH K G (S.set p o) (upd H p ho) ∧ FL S H (S.set p o) (upd H p ho) := by
  obtain ⟨n1, n2, n3⟩ := r.fresh h
  have fl : FL S H (S.set p o) (upd H p ho) := ⟨fun a u e n d => by
    have ne := ne_of_none e h
    exact ⟨by rw [HD.set_ne ne]; exact n, d, by rw [upd_ne ne]; exact e⟩, fun _ e => e⟩
  refine ⟨⟨fun a u e => ?_, fun a g => ?_, fun a b e => ?_⟩, fl⟩
  · by_cases ha : a = p
    · subst ha
      rw [HD.set_same] at e; cases e
      exact ⟨n2, n3, q⟩
    · rw [HD.set_ne ha] at e
      obtain ⟨h1, h2, h3⟩ := r.hp a u e
      exact ⟨h1, h2, h3.mv fl.mv (upd_ne ha)⟩
  · obtain ⟨⟨u, e⟩, d⟩ := r.rs a g
    exact ⟨⟨u, (Grow.upd h).kp a u e⟩, d⟩
  · obtain ⟨h1, h2, h3, cs, n, h4, h5, h6⟩ := r.dk a b e
    exact ⟨h1, by rw [HD.set_ne (ne_of_none h4 h)]; exact h2, by rw [HD.set_ne (ne_of_none h5 h)]; exact h3, cs, n, (Grow.upd h).kp _ _ h4, (Grow.upd h).kp _ _ h5, h6⟩
/-- a tracked object is changed -/
theorem RH.write (r : RH K G S H) {p : Addr} {o o' : OD} (h : S.hp p = some o) {ho : HO} (q : ROD K G (S.set p o') (upd H p ho) p o') :
    RH K G (S.set p o') (upd H p ho) ∧ FL S H (S.set p o') (upd H p ho) := by
  obtain ⟨n2, n3, _⟩ := r.hp p o h
  have nep : ∀ {a : Addr}, S.hp a = none → a ≠ p := fun {a} e z => by rw [z, h] at e; cases e
  have fl : FL S H (S.set p o') (upd H p ho) := ⟨fun a u e n d => by
    have ne := nep n
    exact ⟨by rw [HD.set_ne ne]; exact n, d, by rw [upd_ne ne]; exact e⟩, fun _ e => e⟩
  refine ⟨⟨fun a u e => ?_, fun a g => ?_, fun a b e => ?_⟩, fl⟩
  · by_cases ha : a = p
    · subst ha
      rw [HD.set_same] at e; cases e
      exact ⟨n2, n3, q⟩
    · rw [HD.set_ne ha] at e
      obtain ⟨h1, h2, h3⟩ := r.hp a u e
      exact ⟨h1, h2, h3.mv fl.mv (upd_ne ha)⟩
  · obtain ⟨⟨u, e⟩, d⟩ := r.rs a g
    have ne : a ≠ p := fun z => n3 (z ▸ g)
    exact ⟨⟨u, by rw [upd_ne ne]; exact e⟩, d⟩
  · obtain ⟨h1, h2, h3, cs, n, h4, h5, h6⟩ := r.dk a b e
    exact ⟨h1, by rw [HD.set_ne (nep h2)]; exact h2, by rw [HD.set_ne (nep h3)]; exact h3, cs, n, by rw [upd_ne (nep h2)]; exact h4, by rw [upd_ne (nep h3)]; exact h5, h6⟩
/-- fewer tracked objects, a greater bound -/
structure HLe (S S' : HD) : Prop where
  hp : ∀ a o, S.hp a = some o → S'.hp a = some o
  c : S'.c ≤ S.c
  dk : S.dk = S'.dk
theorem HLe.refl (S : HD) : HLe S S := ⟨fun _ _ h => h, Nat.le_refl _, rfl⟩
theorem HLe.trans {S S1 S2 : HD} (a : HLe S S1) (b : HLe S1 S2) : HLe S S2 := ⟨fun c o h => b.hp c o (a.hp c o h), Nat.le_trans b.c a.c, a.dk.trans b.dk⟩
theorem HLe.set {S : HD} {p : Addr} {o : OD} (h : S.hp p = none) : HLe S (S.set p o) :=
  ⟨fun a u e => by rw [HD.set_ne (fun z => by rw [z, h] at e; cases e)]; exact e, Nat.le_refl _, rfl⟩
theorem HLe.tick {S S' : HD} (h : HLe S S') (n : Nat) : HLe (S.tick n) S' := ⟨h.hp, Nat.le_trans h.c (Nat.le_add_right _ _), h.dk⟩
theorem HLe.dkE (l : HLe S S') {a : Addr} : Dk S a ↔ Dk S' a := by unfold Dk; rw [l.dk]
theorem HLe.fz (l : HLe S S') {a : Addr} (h : S'.hp a = none) : S.hp a = none := by
  cases e : S.hp a with
  | none => rfl
  | some o => rw [l.hp a o e] at h; cases h
theorem HLe.mv (l : HLe S S') : Mv G S' H G S H :=
  ⟨fun a o e z => ⟨⟨l.fz z.1, fun d => z.2.1 (l.dkE.mp d), z.2.2⟩, e⟩, fun p h => l.dk.trans h⟩
theorem HLe.fl (l : HLe S S') : FL S' H S H :=
  ⟨fun a o e n d => ⟨l.fz n, fun z => d (l.dkE.mp z), e⟩, fun p h => l.dk.trans h⟩
theorem RH.le (r : RH K G S' H) (l : HLe S S') : RH K G S H where
  hp := fun a o e => by
    obtain ⟨h1, h2, h3⟩ := r.hp a o (l.hp a o e)
    exact ⟨fun d => h1 (l.dkE.mp d), h2, h3.mv l.mv rfl⟩
  rs := fun a g => let ⟨e, d⟩ := r.rs a g; ⟨e, fun z => d (l.dkE.mp z)⟩
  dk := fun a b e => by
    obtain ⟨h1, h2, h3, cs, n, h4, h5, h6, h7⟩ := r.dk a b (l.dk.symm.trans e)
    exact ⟨h1, l.fz h2, l.fz h3, cs, n, h4, h5, Nat.le_trans h6 l.c, h7⟩
end
/-! ### slots -/
abbrev SD := List (Option D)
structure RSl (K : PySem.W.Frag) (G : Addr → Prop) (S : HD) (H : Hp) (σd : SD) (σ : L2.St) : Prop where
  len : σd.length = σ.length
  sl : ∀ (i : Nat) (d : D), σd[i]? = some (some d) → ∃ v, σ[i]? = some (some v) ∧ RD K G S H d v
section
variable {K : PySem.W.Frag} {G G' : Addr → Prop} {S S' : HD} {H H' : Hp} {σd : SD} {σ : L2.St}
theorem RSl.mv (r : RSl K G S H σd σ) (m : Mv G S H G' S' H') : RSl K G' S' H' σd σ :=
  ⟨r.len, fun i d e => let ⟨v, h, q⟩ := r.sl i d e; ⟨v, h, q.mv m⟩⟩
theorem RSl.fl (r : RSl K G S H σd σ) (f : FL S H S' H') : RSl K G S' H' σd σ := r.mv f.mv
theorem RSl.set (r : RSl K G S H σd σ) {d : D} {v : V} (q : RD K G S H d v) (i : Nat) : RSl K G S H (σd.set i (some d)) (σ.set i (some v)) := by
  refine ⟨by simp [r.len], fun j e h => ?_⟩
  by_cases hj : i = j
  · subst hj
    have hi : i < σd.length := by
      have := (List.getElem?_eq_some_iff.mp h).1
      simpa using this
    rw [List.getElem?_set_self hi] at h
    cases h
    exact ⟨v, by rw [List.getElem?_set_self (r.len ▸ hi)], q⟩
  · rw [List.getElem?_set_ne hj] at h
    obtain ⟨u, h1, h2⟩ := r.sl j e h
    exact ⟨u, by rw [List.getElem?_set_ne hj]; exact h1, h2⟩
def wipeD (σ : SD) : List Nat → SD
  | [] => σ
  | v :: vs => (wipeD σ vs).set v none
theorem RSl.setN (r : RSl K G S H σd σ) (i : Nat) : RSl K G S H (σd.set i none) (σ.set i none) := by
  refine ⟨by simp [r.len], fun j e h => ?_⟩
  by_cases hj : i = j
  · subst hj
    have hi : i < σd.length := by
      have := (List.getElem?_eq_some_iff.mp h).1
      simpa using this
    rw [List.getElem?_set_self hi] at h
    cases h
  · rw [List.getElem?_set_ne hj] at h
    obtain ⟨u, h1, h2⟩ := r.sl j e h
    exact ⟨u, by rw [List.getElem?_set_ne hj]; exact h1, h2⟩
theorem RSl.wipe (r : RSl K G S H σd σ) : ∀ vs : List Nat, RSl K G S H (wipeD σd vs) (wipe σ vs)
  | [] => r
  | v :: vs => (RSl.wipe r vs).setN v
end
end PD
end
section
/-! PD2: readings over deep values, lifted over the layer's readings: names, constants, displays, operators, tests. -/
namespace PD
open PySem PySem.Spec PyProof.Rows L2
abbrev QD := D → HD → Prop
abbrev TED := SD → HD → QD → Prop
abbrev TTD := SD → HD → (Bool → HD → Prop) → Prop
abbrev TAD := SD → HD → (List D → HD → Prop) → Prop
section
variable (K : PySem.W.Frag) (G : Addr → Prop) (S : HD) (H : Hp)
def Post (Qd : QD) (Q : VK) : Prop := ∀ S' d v H', FL S H S' H' → RH K G S' H' → RD K G S' H' d v → Qd d S' → Q v H'
def PostT (Qd : Bool → HD → Prop) (Q : Bool → Hp → Prop) : Prop := ∀ S' b H', FL S H S' H' → RH K G S' H' → Qd b S' → Q b H'
def PostA (Qd : List D → HD → Prop) (Q : List V → Hp → Prop) : Prop := ∀ S' ds vs H', FL S H S' H' → RH K G S' H' → RDs K G S' H' ds vs → Qd ds S' → Q vs H'
end
def up (K : PySem.W.Frag) (t : TED) : TE := fun σ H Q => ∃ G σd S Qd, RSl K G S H σd σ ∧ RH K G S H ∧ t σd S Qd ∧ Post K G S H Qd Q
def upT (K : PySem.W.Frag) (t : TTD) : TT := fun σ H Q => ∃ G σd S Qd, RSl K G S H σd σ ∧ RH K G S H ∧ t σd S Qd ∧ PostT K G S H Qd Q
def upA (K : PySem.W.Frag) (t : TAD) : TA := fun σ H Q => ∃ G σd S Qd, RSl K G S H σd σ ∧ RH K G S H ∧ t σd S Qd ∧ PostA K G S H Qd Q
abbrev DE (X : Cx) (e : Expr) (t : TED) : Prop := PE X e (up X.K t)
abbrev DT (X : Cx) (e : Expr) (t : TTD) : Prop := PT X e (upT X.K t)
abbrev DW (X : Cx) (e : Expr) (t : TTD) : Prop := PW X e (upT X.K t)
abbrev DA (X : Cx) (es : List Expr) (t : TAD) : Prop := PA X es (upA X.K t)
section
variable {X : Cx} {e : Expr}
theorem _root_.L2.PE.imp {t t' : TE} (h : PE X e t) (i : ∀ σ H Q, t' σ H Q → t σ H Q) : PE X e t' := ⟨fun pins s σ H Q I q => h.run pins s σ H Q I (i _ _ _ q)⟩
theorem _root_.L2.PT.imp {t t' : TT} (h : PT X e t) (i : ∀ σ H Q, t' σ H Q → t σ H Q) : PT X e t' := ⟨fun pins s σ H Q I q => h.run pins s σ H Q I (i _ _ _ q)⟩
theorem _root_.L2.PW.imp {t t' : TT} (h : PW X e t) (i : ∀ σ H Q, t' σ H Q → t σ H Q) : PW X e t' := ⟨fun wh pins s σ H Q I q => h.run wh pins s σ H Q I (i _ _ _ q)⟩
theorem _root_.L2.PA.imp {es : List Expr} {t t' : TA} (h : PA X es t) (i : ∀ σ H Q, t' σ H Q → t σ H Q) : PA X es t' := ⟨fun pos pins s σ H Q I q => h.run pos pins s σ H Q I (i _ _ _ q)⟩
end
section
variable {K : PySem.W.Frag} {G : Addr → Prop} {S S1 : HD} {H H1 : Hp}
theorem Post.fl {Qd : QD} {Q : VK} (p : Post K G S H Qd Q) (f : FL S H S1 H1) : Post K G S1 H1 Qd Q := fun S' d v H' f' => p S' d v H' (f.trans f')
theorem PostT.fl {Qd : Bool → HD → Prop} {Q : Bool → Hp → Prop} (p : PostT K G S H Qd Q) (f : FL S H S1 H1) : PostT K G S1 H1 Qd Q := fun S' d H' f' => p S' d H' (f.trans f')
theorem PostA.fl {Qd : List D → HD → Prop} {Q : List V → Hp → Prop} (p : PostA K G S H Qd Q) (f : FL S H S1 H1) : PostA K G S1 H1 Qd Q := fun S' d v H' f' => p S' d v H' (f.trans f')
/-- the value stands in the heap as it is -/
theorem Post.here {Qd : QD} {Q : VK} (p : Post K G S H Qd Q) (r : RH K G S H) {d : D} {v : V} (q : RD K G S H d v) (h : Qd d S) : Q v H := p S d v H (.refl _ _) r q h
theorem PostT.here {Qd : Bool → HD → Prop} {Q : Bool → Hp → Prop} (p : PostT K G S H Qd Q) (r : RH K G S H) {d : Bool} (h : Qd d S) : Q d H := p S d H (.refl _ _) r h
/-- a new frozen tuple, list -/
theorem Post.newT {Qd : QD} {Q : VK} (p : Post K G S H Qd Q) (r : RH K G S H) {ds : List D} {vs : List V} (q : RDs K G S H ds vs) (h : Qd (.tup ds) S) {a : Addr} (ha : H a = none) : Q (.ref a) (upd H a (.tup vs)) :=
  let ⟨r', f, _⟩ := r.newF ha (.tup vs); p S _ _ _ f r' (r.newT ha q) h
theorem Post.newL {Qd : QD} {Q : VK} (p : Post K G S H Qd Q) (r : RH K G S H) {ds : List D} {vs : List V} (q : RDs K G S H ds vs) (h : Qd (.lst ds) S) {a : Addr} (ha : H a = none) : Q (.ref a) (upd H a (.lst vs)) :=
  let ⟨r', f, _⟩ := r.newF ha (.lst vs); p S _ _ _ f r' (r.newL ha q) h
/-- a new tracked list -/
theorem Post.newR {Qd : QD} {Q : VK} (p : Post K G S H Qd Q) (r : RH K G S H) {ds : List D} {vs : List V} (q : RDs K G S H ds vs) (h : ∀ p, S.hp p = none → Qd (.ref p) (S.set p (.lst ds))) {a : Addr} (ha : H a = none) : Q (.ref a) (upd H a (.lst vs)) := by
  have n := r.fresh ha
  have m : Mv G S H G (S.set a (.lst ds)) (upd H a (.lst vs)) := ⟨fun b o e z => by
    have ne := ne_of_none e ha
    exact ⟨⟨by rw [HD.set_ne ne]; exact z.1, z.2.1, z.2.2⟩, by rw [upd_ne ne]; exact e⟩, fun _ e => e⟩
  obtain ⟨r', f⟩ := r.newR ha (o := .lst ds) (ho := .lst vs) ⟨vs, upd_same, q.mv m⟩
  exact p _ _ _ _ f r' (.ref a) (h a n.1)
end
/-! ### names and constants -/
def gt : SD → Nat → Option D
  | [], _ => none
  | x :: _, 0 => x
  | _ :: r, n + 1 => gt r n
theorem gt_some : ∀ {σ : SD} {i : Nat} {d : D}, gt σ i = some d → σ[i]? = some (some d)
  | [], _, _, h => by cases h
  | x :: _, 0, d, h => by simp [gt] at h; simp [h]
  | _ :: r, n + 1, d, h => by simpa using gt_some (σ := r) (i := n) h
/-- a slot that holds a value -/
def tSlot (i : Nat) : TED := fun σ S Q => match gt σ i with
  | some d => Q d S
  | none => False
def tCD (d : D) : TED := fun _ S Q => Q d S
section
variable {X : Cx}
theorem de_slot (i : Nat) {x : Str} {pos : Pos} (h : PE X (.Name x pos) (tVar i)) : DE X (.Name x pos) (tSlot i) := by
  refine h.imp fun σ H Q q => ?_
  obtain ⟨G, σd, S, Qd, rs, rh, t, p⟩ := q
  unfold tSlot at t
  cases e : gt σd i with
  | none => rw [e] at t; exact t.elim
  | some d =>
    rw [e] at t
    obtain ⟨v, h1, h2⟩ := rs.sl i d (gt_some e)
    exact ⟨v, h1, p.here rh h2 t⟩
theorem de_c {e : Expr} {v : V} {d : D} (h : PE X e (tC v)) (r : ∀ G S H, RD X.K G S H d v) : DE X e (tCD d) :=
  h.imp fun σ H Q ⟨G, σd, S, Qd, rs, rh, t, p⟩ => p.here rh (r _ _ _) t
theorem de_int {i j pos} : DE X (.Constant (.int i) j pos) (tCD (.int i)) := de_c pe_int fun _ _ _ => .int _
theorem de_bl {b j pos} : DE X (.Constant (.bool b) j pos) (tCD (.bl b)) := de_c pe_bl fun _ _ _ => .bl _
theorem de_non {j pos} : DE X (.Constant .none j pos) (tCD .non) := de_c pe_non fun _ _ _ => .non
/-- a module's int, text -/
theorem de_globI {x : Str} {i : Int} {t : Tok} {pos : Pos} (hg : Gl X x) (hm : X.mg x = some (.int i t)) (hd : (x == ("__debug__" : Str)) = false := by decide) : DE X (.Name x pos) (tCD (.int i)) :=
  de_c (pe_glob (v := .int i) hg hm ⟨_, rfl⟩ hd) fun _ _ _ => .int _
/-! ### argument lists, displays -/
def tNilD : TAD := fun _ S Q => Q [] S
def tConsD (te : TED) (tr : TAD) : TAD := fun σ S Q => te σ S fun d S1 => tr σ S1 fun ds S2 => Q (d :: ds) S2
theorem da_nil : DA X [] tNilD := pa_nil.imp fun σ H Q ⟨G, σd, S, Qd, rs, rh, t, p⟩ => p S [] [] H (.refl _ _) rh .nil t
theorem da_cons {e : Expr} {es : List Expr} {te : TED} {tr : TAD} (h : DE X e te) (hr : DA X es tr) (hs : starEach (e :: es) X.env = (false, eval e X.env) :: starEach es X.env := by rfl) : DA X (e :: es) (tConsD te tr) :=
  (pa_cons h hr hs).imp fun σ H Q ⟨G, σd, S, Qd, rs, rh, t, p⟩ =>
    ⟨G, σd, S, _, rs, rh, t, fun S1 d v H1 f1 rh1 q1 t1 => ⟨G, σd, S1, _, rs.fl f1, rh1, t1, fun S2 ds vs H2 f2 rh2 q2 t2 => p S2 _ _ H2 (f1.trans f2) rh2 (.cons (q1.fl f2) q2) t2⟩⟩
def tTupD (ta : TAD) : TED := fun σ S Q => ta σ S fun ds S1 => ds.length ≤ 1000 ∧ Q (.tup ds) S1
def tLstV (ta : TAD) : TED := fun σ S Q => ta σ S fun ds S1 => ds.length ≤ 1000 ∧ Q (.lst ds) S1
def tLstR (ta : TAD) : TED := fun σ S Q => ta σ S fun ds S1 => ds.length ≤ 1000 ∧ ∀ p, S1.hp p = none → Q (.ref p) (S1.set p (.lst ds))
theorem line1000 {n : Nat} (h : n ≤ 1000) : n ≤ sizeLine := Nat.le_trans h (by decide)
theorem de_tup {es : List Expr} {ta : TAD} {k pos} (h : DA X es ta) : DE X (.Tuple es k pos) (tTupD ta) :=
  (pe_tup h).imp fun σ H Q ⟨G, σd, S, Qd, rs, rh, t, p⟩ =>
    ⟨G, σd, S, _, rs, rh, t, fun S1 ds vs H1 f1 rh1 q1 ⟨l1, t1⟩ => ⟨q1.length ▸ line1000 l1, fun a ha => (p.fl f1).newT rh1 q1 t1 ha⟩⟩
theorem de_lstV {es : List Expr} {ta : TAD} {pos} (h : DA X es ta) : DE X (.List es pos) (tLstV ta) :=
  (pe_lst h).imp fun σ H Q ⟨G, σd, S, Qd, rs, rh, t, p⟩ =>
    ⟨G, σd, S, _, rs, rh, t, fun S1 ds vs H1 f1 rh1 q1 ⟨l1, t1⟩ => ⟨q1.length ▸ line1000 l1, fun a ha => (p.fl f1).newL rh1 q1 t1 ha⟩⟩
theorem de_lstR {es : List Expr} {ta : TAD} {pos} (h : DA X es ta) : DE X (.List es pos) (tLstR ta) :=
  (pe_lst h).imp fun σ H Q ⟨G, σd, S, Qd, rs, rh, t, p⟩ =>
    ⟨G, σd, S, _, rs, rh, t, fun S1 ds vs H1 f1 rh1 q1 ⟨l1, t1⟩ => ⟨q1.length ▸ line1000 l1, fun a ha => (p.fl f1).newR rh1 q1 t1 ha⟩⟩
/-! ### two operands -/
abbrev R2D := D → D → HD → QD → Prop
/-- a reading by values, lifted -/
def Op2 (K : PySem.W.Frag) (r : R2) (rd : R2D) : Prop := ∀ (G : Addr → Prop) (S : HD) (H : Hp) (d1 d2 : D) (v1 v2 : V) (Qd : QD) (Q : VK), RH K G S H → RD K G S H d1 v1 → RD K G S H d2 v2 → rd d1 d2 S Qd → Post K G S H Qd Q → r v1 v2 H Q
def tBin (rd : R2D) (ta tb : TED) : TED := fun σ S Q => ta σ S fun x S1 => tb σ S1 fun y S2 => rd x y S2 Q
theorem up_bin {K : PySem.W.Frag} {r : R2} {rd : R2D} (h : Op2 K r rd) {ta tb : TED} : ∀ σ H Q, up K (tBin rd ta tb) σ H Q → tOp r (up K ta) (up K tb) σ H Q := fun σ H Q ⟨G, σd, S, Qd, rs, rh, t, p⟩ =>
  ⟨G, σd, S, _, rs, rh, t, fun S1 d v H1 f1 rh1 q1 t1 => ⟨G, σd, S1, _, rs.fl f1, rh1, t1, fun S2 d2 v2 H2 f2 rh2 q2 t2 => h G S2 H2 d d2 v v2 _ _ rh2 (q1.fl f2) q2 t2 (p.fl (f1.trans f2))⟩⟩
theorem Op2.or {K : PySem.W.Frag} {r r' : R2} {rd rd' : R2D} (h : Op2 K r rd) (h' : Op2 K r' rd') : Op2 K (fun x y H Q => r x y H Q ∨ r' x y H Q) (fun x y S Q => rd x y S Q ∨ rd' x y S Q) :=
  fun G S H d1 d2 v1 v2 Qd Q rh q1 q2 t p => t.imp (fun t => h G S H d1 d2 v1 v2 Qd Q rh q1 q2 t p) fun t => h' G S H d1 d2 v1 v2 Qd Q rh q1 q2 t p
variable {a b : Expr} {ta tb : TED} {pos : Pos}
theorem de_op {op : Operator} {r : R2} {rd : R2D} (ho : OpR X (binaryOp op) r) (h : Op2 X.K r rd) (ha : DE X a ta) (hb : DE X b tb) : DE X (.BinOp a op b pos) (tBin rd ta tb) := (pe_op ho ha hb).imp (up_bin h)
theorem de_cmp {op : CmpOp} {r : R2} {rd : R2D} (ho : OpR X (compareOp op) r) (h : Op2 X.K r rd) (ha : DE X a ta) (hb : DE X b tb) (hm : behindInMarks op b = false) : DE X (.Compare a [op] [b] pos) (tBin rd ta tb) := (pe_cmpR ho ha hb hm).imp (up_bin h)
/-- a value that is a bool, as a test -/
def tTst (t : TED) : TTD := fun σ S Q => t σ S fun x S1 => match x with
  | .bl k => Q k S1
  | _ => False
theorem up_tst {K : PySem.W.Frag} {r : R2} {rd : R2D} (h : Op2 K r rd) {ta tb : TED} : ∀ σ H Q, upT K (tTst (tBin rd ta tb)) σ H Q → tTest (tOp r (up K ta) (up K tb)) σ H Q := fun σ H Q ⟨G, σd, S, Qd, rs, rh, t, p⟩ =>
  up_bin h σ H _ ⟨G, σd, S, _, rs, rh, t, fun S1 d v H1 f1 rh1 q1 t1 => by
    cases q1 with
    | bl k => exact ⟨k, rfl, p S1 k H1 f1 rh1 t1⟩
    | _ => exact t1.elim⟩
theorem dt_cmp {op : CmpOp} {r : R2} {rd : R2D} (ho : OpR X (compareOp op) r) (h : Op2 X.K r rd) (ha : DE X a ta) (hb : DE X b tb) (hm : behindInMarks op b = false) : DT X (.Compare a [op] [b] pos) (tTst (tBin rd ta tb)) := (pt_cmpR ho ha hb hm).imp (up_tst h)
theorem dt_val {e : Expr} {t : TED} (h : DE X e t) (he : ∀ whole, isTrue e X.env whole = (do let v ← whole; standAt e.pos; holding [v] (truthy v)) := by intro _; rfl) : DT X e (tTst t) :=
  (pt_val h he).imp fun σ H Q ⟨G, σd, S, Qd, rs, rh, t, p⟩ => ⟨G, σd, S, _, rs, rh, t, fun S1 d v H1 f1 rh1 q1 t1 => by
    cases q1 with
    | bl k => exact ⟨k, rfl, p S1 k H1 f1 rh1 t1⟩
    | _ => exact t1.elim⟩
/-! ### and, or, not, if as tests and as values -/
variable {tA tB' : TTD} {rest : List Expr} {c : Expr}
def tAndD (t u : TTD) : TTD := fun σ S Q => t σ S fun c S1 => if c = true then u σ S1 Q else Q false S1
def tOrD (t u : TTD) : TTD := fun σ S Q => t σ S fun c S1 => if c = true then Q true S1 else u σ S1 Q
def tNotD (t : TTD) : TTD := fun σ S Q => t σ S fun c S1 => Q (!c) S1
theorem dw_and1 (ha : DT X a tA) : DW X (.BoolOp .And [a] pos) tA := pw_and1 ha
theorem dw_or1 (ha : DT X a tA) : DW X (.BoolOp .Or [a] pos) tA := pw_or1 ha
theorem dw_and (ha : DT X a tA) (hb : DW X (.BoolOp .And (b :: rest) pos) tB') : DW X (.BoolOp .And (a :: b :: rest) pos) (tAndD tA tB') :=
  (pw_and ha hb).imp fun σ H Q ⟨G, σd, S, Qd, rs, rh, t, p⟩ => ⟨G, σd, S, _, rs, rh, t, fun S1 k H1 f1 rh1 t1 => by
    cases k with
    | true => rw [if_pos rfl] at t1 ⊢; exact ⟨G, σd, S1, _, rs.fl f1, rh1, t1, p.fl f1⟩
    | false => rw [if_neg Bool.false_ne_true] at t1 ⊢; exact p S1 false H1 f1 rh1 t1⟩
theorem dw_or (ha : DT X a tA) (hb : DW X (.BoolOp .Or (b :: rest) pos) tB') : DW X (.BoolOp .Or (a :: b :: rest) pos) (tOrD tA tB') :=
  (pw_or ha hb).imp fun σ H Q ⟨G, σd, S, Qd, rs, rh, t, p⟩ => ⟨G, σd, S, _, rs, rh, t, fun S1 k H1 f1 rh1 t1 => by
    cases k with
    | false => rw [if_neg Bool.false_ne_true] at t1 ⊢; exact ⟨G, σd, S1, _, rs.fl f1, rh1, t1, p.fl f1⟩
    | true => rw [if_pos rfl] at t1 ⊢; exact p S1 true H1 f1 rh1 t1⟩
theorem dt_w (h : DW X c tA) : DT X c tA := PW.pt h
theorem dt_not (ha : DT X a tA) : DT X (.UnaryOp .Not a pos) (tNotD tA) :=
  (pt_not ha).imp fun σ H Q ⟨G, σd, S, Qd, rs, rh, t, p⟩ => ⟨G, σd, S, _, rs, rh, t, fun S1 k H1 f1 rh1 t1 => p S1 _ H1 f1 rh1 t1⟩
def tIfD (t : TTD) (ta tb : TED) : TED := fun σ S Q => t σ S fun c S1 => if c = true then ta σ S1 Q else tb σ S1 Q
theorem de_if (hc : DT X c tA) (ha : DE X a ta) (hb : DE X b tb) : DE X (.IfExp c a b pos) (tIfD tA ta tb) :=
  (pe_ifExp hc ha hb).imp fun σ H Q ⟨G, σd, S, Qd, rs, rh, t, p⟩ => ⟨G, σd, S, _, rs, rh, t, fun S1 k H1 f1 rh1 t1 => by
    cases k with
    | true => rw [if_pos rfl] at t1 ⊢; exact ⟨G, σd, S1, _, rs.fl f1, rh1, t1, p.fl f1⟩
    | false => rw [if_neg Bool.false_ne_true] at t1 ⊢; exact ⟨G, σd, S1, _, rs.fl f1, rh1, t1, p.fl f1⟩⟩
/-- as values: all but the last are bools -/
def tAndV (ta tb : TED) : TED := fun σ S Q => ta σ S fun x S1 => match x with
  | .bl true => tb σ S1 Q
  | .bl false => Q (.bl false) S1
  | _ => False
def tOrV (ta tb : TED) : TED := fun σ S Q => ta σ S fun x S1 => match x with
  | .bl true => Q (.bl true) S1
  | .bl false => tb σ S1 Q
  | _ => False
def tNotV (ta : TED) : TED := fun σ S Q => ta σ S fun x S1 => match x with
  | .bl k => Q (.bl (!k)) S1
  | _ => False
theorem de_one {op} (h : DE X a ta) : DE X (.BoolOp op [a] pos) ta := pe_one h
theorem de_and (ha : DE X a ta) (hb : DE X (.BoolOp .And (b :: rest) pos) tb) : DE X (.BoolOp .And (a :: b :: rest) pos) (tAndV ta tb) :=
  (pe_and ha hb).imp fun σ H Q ⟨G, σd, S, Qd, rs, rh, t, p⟩ => ⟨G, σd, S, _, rs, rh, t, fun S1 d v H1 f1 rh1 q1 t1 => by
    cases q1 with
    | bl k =>
      refine ⟨k, rfl, ?_⟩
      cases k with
      | true => rw [if_pos rfl]; exact ⟨G, σd, S1, _, rs.fl f1, rh1, t1, p.fl f1⟩
      | false => rw [if_neg Bool.false_ne_true]; exact p S1 _ _ H1 f1 rh1 (.bl _) t1
    | _ => exact t1.elim⟩
/-- one operand -/
abbrev R1D := D → HD → QD → Prop
def tUnD (r : R1D) (ta : TED) : TED := fun σ S Q => ta σ S fun x S1 => r x S1 Q
def rNeg : R1D := fun x S Q => match x with
  | .int i => Q (.int (-i)) S
  | _ => False
theorem de_neg (ha : DE X a ta) : DE X (.UnaryOp .USub a pos) (tUnD rNeg ta) :=
  (pe_un un_neg ha).imp fun σ H Q ⟨G, σd, S, Qd, rs, rh, t, p⟩ => ⟨G, σd, S, _, rs, rh, t, fun S1 d v H1 f1 rh1 q1 t1 => by
    cases q1 with
    | int i => exact ⟨i, rfl, p S1 _ _ H1 f1 rh1 (.int _) t1⟩
    | _ => exact t1.elim⟩
end
end PD
end
section
/-! PD3: statements, targets, loops over deep values. -/
namespace PD
open PySem PySem.Spec PyProof.Rows L2
structure EndsD where
  nx : SD → HD → Prop
  rt : QD
  bk : SD → HD → Prop := fun _ _ => False
  ct : SD → HD → Prop := fun _ _ => False
  xr : Addr → SD → HD → Prop := fun _ _ _ => False
abbrev TSD := EndsD → SD → HD → Prop
abbrev TGD := D → SD → HD → (SD → HD → Prop) → Prop
abbrev TGsD := List D → SD → HD → (SD → HD → Prop) → Prop
section
variable (K : PySem.W.Frag) (G : Addr → Prop) (S : HD) (H : Hp)
def PostS (nd : SD → HD → Prop) (n : L2.St → Hp → Prop) : Prop := ∀ S' σd σ H', FL S H S' H' → RH K G S' H' → RSl K G S' H' σd σ → nd σd S' → n σ H'
structure PEnds (W : WX) (Dd : EndsD) (D : Ends) : Prop where
  nx : PostS K G S H Dd.nx D.nx
  rt : Post K G S H Dd.rt D.rt
  bk : PostS K G S H Dd.bk D.bk
  ct : PostS K G S H Dd.ct D.ct
  xr : ∀ C S' σd σ H', FL S H S' H' → RH K G S' H' → RSl K G S' H' σd σ → Dd.xr C σd S' → W (.ref C) none σ H'
end
/-- what X takes of exceptions -/
def WXof (X : Cx) : WX := fun cls d σ H => ∀ u s', L2.XE X (fun c' d' σ' H' => c' = cls ∧ d' = d ∧ σ' = σ ∧ H' = H) u s' → X.xe u s'
theorem wx_le {X : Cx} {W : WX} (t : L2.Takes X W) {cls : Value} {d : Option Addr} {σ : L2.St} {H : Hp} (w : W cls d σ H) : WXof X cls d σ H := fun u s' x => t u s' (by
  obtain ⟨a, B, sI, pins, σ', H', cls', d', e, I, nb, up, sky, na, os, ag, rfl, rfl, rfl, rfl⟩ := x
  exact ⟨a, B, sI, pins, _, _, _, _, e, I, nb, up, sky, na, os, ag, w⟩)
def upS (K : PySem.W.Frag) (W : WX) (t : TSD) : TS := fun D σ H => ∃ G σd S Dd, RSl K G S H σd σ ∧ RH K G S H ∧ t Dd σd S ∧ PEnds K G S H W Dd D
def upG (K : PySem.W.Frag) (t : TGD) : TG := fun v σ H Q => ∃ G σd S d Qd, RSl K G S H σd σ ∧ RH K G S H ∧ RD K G S H d v ∧ t d σd S Qd ∧ PostS K G S H Qd Q
def upGs (K : PySem.W.Frag) (t : TGsD) : TGs := fun vs σ H Q => ∃ G σd S ds Qd, RSl K G S H σd σ ∧ RH K G S H ∧ RDs K G S H ds vs ∧ t ds σd S Qd ∧ PostS K G S H Qd Q
abbrev DS (X : Cx) (st : Stmt) (t : TSD) : Prop := PS X st (upS X.K (WXof X) t)
abbrev DSs (X : Cx) (st : List Stmt) (t : TSD) : Prop := PSs X st (upS X.K (WXof X) t)
abbrev DG (X : Cx) (tg : Expr) (t : TGD) : Prop := PG X tg (upG X.K t)
abbrev DGs (X : Cx) (tg : List Expr) (t : TGsD) : Prop := PGs X tg (upGs X.K t)
theorem _root_.L2.PS.imp {X : Cx} {st : Stmt} {t t' : TS} (h : PS X st t) (i : ∀ D σ H, t' D σ H → t D σ H) : PS X st t' := ⟨fun pins s σ H D I q => h.run pins s σ H D I (i _ _ _ q)⟩
theorem _root_.L2.PSs.imp {X : Cx} {st : List Stmt} {t t' : TS} (h : PSs X st t) (i : ∀ D σ H, t' D σ H → t D σ H) : PSs X st t' := ⟨fun pins s σ H D I q => h.run pins s σ H D I (i _ _ _ q)⟩
theorem _root_.L2.PG.imp {X : Cx} {tg : Expr} {t t' : TG} (h : PG X tg t) (i : ∀ v σ H Q, t' v σ H Q → t v σ H Q) : PG X tg t' := ⟨fun pins s σ H v u Q I r q => h.run pins s σ H v u Q I r (i _ _ _ _ q)⟩
theorem _root_.L2.PGs.imp {X : Cx} {tg : List Expr} {t t' : TGs} (h : PGs X tg t) (i : ∀ v σ H Q, t' v σ H Q → t v σ H Q) : PGs X tg t' := ⟨fun pins s σ H v u Q I r q => h.run pins s σ H v u Q I r (i _ _ _ _ q)⟩
section
variable {K : PySem.W.Frag} {G : Addr → Prop} {S S1 : HD} {H H1 : Hp}
theorem PostS.fl {nd : SD → HD → Prop} {n : L2.St → Hp → Prop} (p : PostS K G S H nd n) (f : FL S H S1 H1) : PostS K G S1 H1 nd n := fun S' d v H' f' => p S' d v H' (f.trans f')
theorem PEnds.fl {W : WX} {Dd : EndsD} {D : Ends} (p : PEnds K G S H W Dd D) (f : FL S H S1 H1) : PEnds K G S1 H1 W Dd D := ⟨p.nx.fl f, p.rt.fl f, p.bk.fl f, p.ct.fl f, fun C S' σd σ H' f' => p.xr C S' σd σ H' (f.trans f')⟩
theorem PostS.here {nd : SD → HD → Prop} {n : L2.St → Hp → Prop} (p : PostS K G S H nd n) (r : RH K G S H) {σd : SD} {σ : L2.St} (rs : RSl K G S H σd σ) (h : nd σd S) : n σ H := p S σd σ H (.refl _ _) r rs h
end
/-! ### blocks and small statements -/
section
variable {X : Cx} {st : Stmt} {rest : List Stmt} {t u : TSD} {e : Expr} {te : TED} {pos : Pos}
def sNextD : TSD := fun D σ S => D.nx σ S
def sSeqD (t u : TSD) : TSD := fun D σ S => t { D with nx := u D } σ S
theorem dss_nil : DSs X [] sNextD := pss_nil.imp fun D σ H ⟨G, σd, S, Dd, rs, rh, t, p⟩ => p.nx.here rh rs t
theorem dss_cons (h1 : DS X st t) (h2 : DSs X rest u) : DSs X (st :: rest) (sSeqD t u) :=
  (pss_cons h1 h2).imp fun D σ H ⟨G, σd, S, Dd, rs, rh, q, p⟩ =>
    ⟨G, σd, S, _, rs, rh, q, fun S1 σd1 σ1 H1 f1 rh1 rs1 q1 => ⟨G, σd1, S1, Dd, rs1, rh1, q1, p.fl f1⟩, p.rt, p.bk, p.ct, p.xr⟩
theorem dss_one (h1 : DS X st t) : DSs X [st] t := pss_one h1
def sBreakD : TSD := fun D σ S => D.bk σ S
def sContD : TSD := fun D σ S => D.ct σ S
def sDropD (te : TED) : TSD := fun D σ S => te σ S fun _ S1 => D.nx σ S1
theorem ds_expr (he : DE X e te) (hs : swapsWith e none pos.line X.env = pure false := by rfl) : DS X (.Expr e pos) (sDropD te) :=
  (ps_expr he hs).imp fun D σ H ⟨G, σd, S, Dd, rs, rh, t, p⟩ => ⟨G, σd, S, _, rs, rh, t, fun S1 d v H1 f1 rh1 q1 t1 => p.nx S1 σd σ H1 f1 rh1 (rs.fl f1) t1⟩
def sRetD (te : TED) : TSD := fun D σ S => te σ S D.rt
theorem ds_ret (he : DE X e te) : DS X (.Return (some e) pos) (sRetD te) :=
  (ps_ret he).imp fun D σ H ⟨G, σd, S, Dd, rs, rh, t, p⟩ => ⟨G, σd, S, _, rs, rh, t, p.rt⟩
def sRetND : TSD := fun D _ S => D.rt .non S
def sIfD (c : TTD) (t u : TSD) : TSD := fun D σ S => c σ S fun b S1 => if b = true then t D σ S1 else u D σ S1
theorem ds_if {c : Expr} {a b : List Stmt} {tc : TTD} (hc : DT X c tc) (ha : DSs X a t) (hb : DSs X b u) : DS X (.If c a b pos) (sIfD tc t u) :=
  (ps_if hc ha hb).imp fun D σ H ⟨G, σd, S, Dd, rs, rh, t, p⟩ => ⟨G, σd, S, _, rs, rh, t, fun S1 k H1 f1 rh1 t1 => by
    cases k with
    | true => rw [if_pos rfl] at t1 ⊢; exact ⟨G, σd, S1, Dd, rs.fl f1, rh1, t1, p.fl f1⟩
    | false => rw [if_neg Bool.false_ne_true] at t1 ⊢; exact ⟨G, σd, S1, Dd, rs.fl f1, rh1, t1, p.fl f1⟩⟩
def sNeverD : TSD := fun _ _ _ => False
theorem ds_never : DS X st sNeverD := ⟨fun _ _ _ _ _ _ ⟨_, _, _, _, _, _, q, _⟩ => q.elim⟩
end
/-! ### targets -/
section
variable {X : Cx} {pos : Pos}
/-- set a slot -/
def st : SD → Nat → D → SD
  | [], _, _ => []
  | _ :: r, 0, d => some d :: r
  | x :: r, n + 1, d => x :: st r n d
theorem st_eq : ∀ (σ : SD) (i : Nat) (d : D), st σ i d = σ.set i (some d)
  | [], _, _ => rfl
  | _ :: _, 0, _ => rfl
  | x :: r, n + 1, d => by unfold st; rw [st_eq r n d]; rfl
def gNameD (i : Nat) : TGD := fun d σ S Q => Q (st σ i d) S
theorem dg_name (i : Nat) {e : Expr} (h : PG X e (gName i)) : DG X e (gNameD i) :=
  h.imp fun v σ H Q ⟨G, σd, S, d, Qd, rs, rh, q, t, p⟩ => p S _ _ H (.refl _ _) rh (by rw [st_eq]; exact rs.set q i) t
def gNilD : TGsD := fun ds σ S Q => ds = [] ∧ Q σ S
def gConsD (t : TGD) (u : TGsD) : TGsD := fun ds σ S Q => match ds with
  | d :: r => t d σ S fun σ' S' => u r σ' S' Q
  | [] => False
theorem dgs_nil : DGs X [] gNilD := pgs_nil.imp fun vs σ H Q ⟨G, σd, S, ds, Qd, rs, rh, q, ⟨e, t⟩, p⟩ => by
  subst e
  cases q
  exact ⟨rfl, p.here rh rs t⟩
theorem dgs_cons {e : Expr} {es : List Expr} {t : TGD} {u : TGsD} (h1 : DG X e t) (h2 : DGs X es u)
    (hs : (assignEach (e :: es) X.env).map (·.2) = assign e X.env :: (assignEach es X.env).map (·.2) := by rfl) : DGs X (e :: es) (gConsD t u) :=
  (pgs_cons h1 h2 hs).imp fun vs σ H Q ⟨G, σd, S, ds, Qd, rs, rh, q, tt, p⟩ => by
    cases q with
    | nil => exact tt.elim
    | cons q qs =>
      exact ⟨_, _, rfl, G, σd, S, _, _, rs, rh, q, tt, fun S1 σd1 σ1 H1 f1 rh1 rs1 q1 => ⟨G, σd1, S1, _, Qd, rs1, rh1, qs.fl f1, q1, p.fl f1⟩⟩
def gTupD (n : Nat) (t : TGsD) : TGD := fun d σ S Q => match d with
  | .tup ds => ds.length = n ∧ t ds σ S Q
  | _ => False
theorem FzT.sq {K : PySem.W.Frag} {G : Addr → Prop} {S : HD} {H : Hp} {a : Addr} {vs : List V} (h : FzT K G S H a vs) : SqT K H a vs := h.imp (fun z => z.2) fun ⟨o, its, n, h⟩ => ⟨o, its, n, h⟩
theorem FzL.sq {K : PySem.W.Frag} {G : Addr → Prop} {S : HD} {H : Hp} {a : Addr} {vs : List V} (h : FzL K G S H a vs) : SqL K H a vs := h.imp (fun z => z.2) fun ⟨o, its, n, h⟩ => ⟨o, its, n, h⟩
theorem dg_tup {es : List Expr} {k : Nat} {t : TGsD} {n : Nat} (hc : X.calm = true) (h : DGs X es t)
    (hn : (assignEach es X.env).length = n := by rfl) (hst : (assignEach es X.env).findIdx? (·.1) = none := by rfl) : DG X (.Tuple es k pos) (gTupD n t) :=
  (pg_tup hc h hn hst).imp fun v σ H Q ⟨G, σd, S, d, Qd, rs, rh, q, tt, p⟩ => by
    cases q with
    | @tup a vs ds h r =>
      obtain ⟨l, tt⟩ := tt
      exact ⟨a, vs, rfl, h.sq, r.length ▸ l, G, σd, S, _, _, rs, rh, r, tt, p⟩
    | _ => exact tt.elim
/-- target = value -/
def sAsgD (te : TED) (g : TGD) : TSD := fun D σ S => te σ S fun x S1 => g x σ S1 D.nx
theorem up_asg {K : PySem.W.Frag} {W : WX} {te : TED} {g : TGD} : ∀ D σ H, upS K W (sAsgD te g) D σ H → tAsg (up K te) (upG K g) D σ H := fun D σ H ⟨G, σd, S, Dd, rs, rh, t, p⟩ =>
  ⟨G, σd, S, _, rs, rh, t, fun S1 d v H1 f1 rh1 q1 t1 => ⟨G, σd, S1, d, _, rs.fl f1, rh1, q1, t1, p.nx.fl f1⟩⟩
theorem up_asgN {K : PySem.W.Frag} {W : WX} {te : TED} {i : Nat} : ∀ D σ H, upS K W (sAsgD te (gNameD i)) D σ H → tAsg (up K te) (gName i) D σ H := fun D σ H ⟨G, σd, S, Dd, rs, rh, t, p⟩ =>
  ⟨G, σd, S, _, rs, rh, t, fun S1 d v H1 f1 rh1 q1 t1 => p.nx S1 _ _ H1 f1 rh1 ((rs.fl f1).set q1 i) (st_eq σd i d ▸ t1)⟩
theorem ds_asg {tg e : Expr} {te : TED} {g : TGD} (he : DE X e te) (hg : DG X tg g) (hs : swapsWithSole [tg] e pos.line X.env = pure false := by rfl) (hw : swappedStores [tg] e X.env = pure none := by rfl)
    (h1 : (assignEach [tg] X.env).map (·.2) = [assign tg X.env] := by rfl) : DS X (.Assign [tg] e pos) (sAsgD te g) := (ps_asg he hg hs hw h1).imp up_asg
theorem ds_set (i : Nat) {x : Str} {e : Expr} {te : TED} {pos' : Pos} (hN : X.N.Nodup) (he : DE X e te) (hi : X.N[i]? = some x := by rfl) (hx : Loc X.env.scope x := by first | exact .inl rfl | exact .inr rfl) (hs : swapsWith e (some (.Name x pos')) pos.line X.env = pure false := by rfl) (hf : X.fn x = true ∨ X.env.scope.names.lookup x = some .local := by first | exact .inl rfl | exact .inr rfl | assumption) :
    DS X (.Assign [.Name x pos'] e pos) (sAsgD te (gNameD i)) := (ps_set hN hi hx he hs hf).imp up_asgN
/-- a, b = x, y with plain local names -/
def sPar2 (i j : Nat) (ta : TAD) : TSD := fun D σ S => ta σ S fun ds S1 => match ds with
  | [d, e] => D.nx (st (st σ i d) j e) S1
  | _ => False
theorem ds_par (i j : Nat) {x y : Str} {a b : Expr} {ta : TAD} {px py pt : Pos} {kt k2 pt2} (hN : X.N.Nodup) (ha : DA X [a, b] ta) (hc : X.calm = true := by rfl) (hi : X.N[i]? = some x := by rfl) (hj : X.N[j]? = some y := by rfl) (hij : i ≠ j := by decide)
    (hx : X.env.scope.names.lookup x = some .local := by rfl) (hy : X.env.scope.names.lookup y = some .local := by rfl)
    (hw : swappedStores [.Tuple [.Name x px, .Name y py] kt pt] (.Tuple [a, b] k2 pt2) X.env = pure (some [x, y]) := by rfl)
    (hs : swapsWithSole [.Tuple [.Name x px, .Name y py] kt pt] (.Tuple [a, b] k2 pt2) pos.line X.env = pure false := by rfl) :
    DS X (.Assign [.Tuple [.Name x px, .Name y py] kt pt] (.Tuple [a, b] k2 pt2) pos) (sPar2 i j ta) :=
  (ps_par hc hN hi hj hij hx hy ha hw hs).imp fun D σ H ⟨G, σd, S, Dd, rs, rh, t, p⟩ =>
    ⟨G, σd, S, _, rs, rh, t, fun S1 ds vs H1 f1 rh1 q1 t1 => by
      cases q1 with
      | nil => exact t1.elim
      | cons q1 r =>
        cases r with
        | nil => exact t1.elim
        | cons q2 r =>
          cases r with
          | cons _ _ => exact t1.elim
          | nil => exact ⟨_, _, rfl, p.nx S1 _ _ H1 f1 rh1 (by rw [st_eq, st_eq]; exact ((rs.fl f1).set q1 i).set q2 j) t1⟩⟩
def sPar3 (i j l : Nat) (ta : TAD) : TSD := fun D σ S => ta σ S fun ds S1 => match ds with
  | [d, e, f] => D.nx (st (st (st σ i d) j e) l f) S1
  | _ => False
theorem ds_par3 (i j l : Nat) {x y z : Str} {a b c : Expr} {ta : TAD} {px py pz pt : Pos} {kt k2 pt2} (hN : X.N.Nodup) (ha : DA X [a, b, c] ta) (hc : X.calm = true := by rfl) (hi : X.N[i]? = some x := by rfl) (hj : X.N[j]? = some y := by rfl) (hl : X.N[l]? = some z := by rfl) (hij : i ≠ j := by decide) (hil : i ≠ l := by decide) (hjl : j ≠ l := by decide)
    (hx : X.env.scope.names.lookup x = some .local := by rfl) (hy : X.env.scope.names.lookup y = some .local := by rfl) (hz : X.env.scope.names.lookup z = some .local := by rfl)
    (hw : swappedStores [.Tuple [.Name x px, .Name y py, .Name z pz] kt pt] (.Tuple [a, b, c] k2 pt2) X.env = pure (some [x, y, z]) := by rfl)
    (hs : swapsWithSole [.Tuple [.Name x px, .Name y py, .Name z pz] kt pt] (.Tuple [a, b, c] k2 pt2) pos.line X.env = pure false := by rfl) :
    DS X (.Assign [.Tuple [.Name x px, .Name y py, .Name z pz] kt pt] (.Tuple [a, b, c] k2 pt2) pos) (sPar3 i j l ta) :=
  (ps_par3 hc hN hi hj hl hij hil hjl hx hy hz ha hw hs).imp fun D σ H ⟨G, σd, S, Dd, rs, rh, t, p⟩ =>
    ⟨G, σd, S, _, rs, rh, t, fun S1 ds vs H1 f1 rh1 q1 t1 => by
      cases q1 with
      | nil => exact t1.elim
      | cons q1 r =>
        cases r with
        | nil => exact t1.elim
        | cons q2 r =>
          cases r with
          | nil => exact t1.elim
          | cons q3 r =>
            cases r with
            | cons _ _ => exact t1.elim
            | nil => exact ⟨_, _, _, rfl, p.nx S1 _ _ H1 f1 rh1 (by rw [st_eq, st_eq, st_eq]; exact (((rs.fl f1).set q1 i).set q2 j).set q3 l) t1⟩⟩
end
/-! ### what is walked: a list of deep items, that stay as long as keep holds -/
structure ItOk (K : PySem.W.Frag) (G : Addr → Prop) (S : HD) (H : Hp) (J : It) (xs : List D) (keep : HD → Prop) : Prop where
  go : ∀ (i : Nat) (d : D) (S1 : HD) (H1 : Hp), xs[i]? = some d → FL S H S1 H1 → RH K G S1 H1 → keep S1 → J.go i H1 ∧ ∀ x H2, J.yld i H1 x H2 → FL S1 H1 S1 H2 ∧ RH K G S1 H2 ∧ RD K G S1 H2 d x
  stop : ∀ (S1 : HD) (H1 : Hp), FL S H S1 H1 → RH K G S1 H1 → keep S1 → J.stop xs.length H1
abbrev TID := SD → HD → (List D → (HD → Prop) → HD → Prop) → Prop
def upI (K : PySem.W.Frag) (t : TID) : TI := fun σ H R => ∃ G σd S Rd, RSl K G S H σd σ ∧ RH K G S H ∧ t σd S Rd ∧
  ∀ S' J xs keep H', FL S H S' H' → RH K G S' H' → (∀ G' S2 H2, Mv G S' H' G' S2 H2 → RH K G' S2 H2 → ItOk K G' S2 H2 J xs keep) → Rd xs keep S' → R J H'
abbrev DI (X : Cx) (tg iter : Expr) (t : TID) : Prop := PI X tg iter (upI X.K t)
theorem _root_.L2.PI.imp {X : Cx} {tg e : Expr} {t t' : TI} (h : PI X tg e t) (i : ∀ σ H R, t' σ H R → t σ H R) : PI X tg e t' := ⟨fun pins s σ H R I q => h.run pins s σ H R I (i _ _ _ q)⟩
/-- the loop over the items -/
def loopD (g : TGD) (tb : TSD) (E : EndsD) (keep : HD → Prop) : List D → SD → HD → Prop
  | [], σ, S => keep S ∧ E.nx σ S
  | d :: r, σ, S => keep S ∧ g d σ S fun σ2 S2 => tb { nx := loopD g tb E keep r, ct := loopD g tb E keep r, bk := E.nx, rt := E.rt, xr := E.xr } σ2 S2
def sForD (ti : TID) (g : TGD) (tb : TSD) : TSD := fun D σ S => ti σ S fun xs keep S1 => loopD g tb D keep xs σ S1
section
variable {X : Cx} {pos : Pos}
theorem ds_for {tg iter : Expr} {body : List Stmt} {ti : TID} {g : TGD} {tb : TSD} (hp : PassesOwn (model X.prog X.w) X.A X.env X.xe) (hi : DI X tg iter ti) (hg : DG X tg g) (hb : DSs X body tb) (hc : X.calm = true := by rfl)
    (hs : ∀ x, foldedSetIterable iter X.env x = pure x := by intro _; rfl) : DS X (.For tg iter body [] pos) (sForD ti g tb) :=
  (ps_for hp hc hi hg hb hs).imp fun D σ H ⟨G, σd, S, Dd, rs, rh, t, p⟩ => by
    refine ⟨G, σd, S, _, rs, rh, t, fun S1 J xs keep H1 f1 rh1 hJ t1 => ?_⟩
    have ok := hJ G S1 H1 (FL.refl _ _).mv rh1
    refine ⟨fun i m σ2 H2 => m = xs.length - i ∧ i ≤ xs.length ∧ ∃ σd2 S2, FL S1 H1 S2 H2 ∧ RSl X.K G S2 H2 σd2 σ2 ∧ RH X.K G S2 H2 ∧ loopD g tb Dd keep (xs.drop i) σd2 S2,
      ⟨xs.length, by simp, Nat.zero_le _, σd, S1, .refl _ _, rs.fl f1, rh1, t1⟩, ?_⟩
    rintro i m σ2 H2 ⟨rfl, hi, σd2, S2, f2, rs2, rh2, t2⟩
    by_cases hlt : i < xs.length
    · have hx : xs[i]? = some xs[i] := by simp [hlt]
      rw [List.drop_eq_getElem_cons hlt] at t2
      obtain ⟨k2, t2⟩ := t2
      obtain ⟨go, yl⟩ := ok.go i _ S2 H2 hx f2 rh2 k2
      refine .inr ⟨go, fun σ' H' => ∃ σd2 S2, FL S1 H1 S2 H' ∧ RSl X.K G S2 H' σd2 σ' ∧ RH X.K G S2 H' ∧ loopD g tb Dd keep (xs.drop (i + 1)) σd2 S2, fun σ' H' n => ⟨_, by omega, rfl, hlt, n⟩, fun x H3 y => ?_⟩
      obtain ⟨f3, rh3, q3⟩ := yl x H3 y
      refine ⟨G, σd2, S2, _, _, rs2.fl f3, rh3, q3, t2, fun S4 σd4 σ4 H4 f4 rh4 rs4 t4 => ?_⟩
      have f14 := f2.trans (f3.trans f4)
      refine ⟨G, σd4, S4, _, rs4, rh4, t4, fun S5 σd5 σ5 H5 f5 rh5 rs5 t5 => ⟨σd5, S5, f14.trans f5, rs5, rh5, t5⟩, p.rt.fl (f1.trans f14), p.nx.fl (f1.trans f14), fun S5 σd5 σ5 H5 f5 rh5 rs5 t5 => ⟨σd5, S5, f14.trans f5, rs5, rh5, t5⟩, (p.fl (f1.trans f14)).xr⟩
    · have e : i = xs.length := by omega
      subst e
      rw [List.drop_length] at t2
      exact .inl ⟨ok.stop S2 H2 f2 rh2 t2.1, p.nx S2 _ _ H2 (f1.trans f2) rh2 rs2 t2.2⟩
/-! ### while: by a number of turns -/
def whileN (c : TTD) (tb : TSD) (D : EndsD) : Nat → SD → HD → Prop
  | 0, _, _ => False
  | n + 1, σ, S => c σ S fun b S1 => if b = true then tb { nx := whileN c tb D n, ct := whileN c tb D n, bk := D.nx, rt := D.rt, xr := D.xr } σ S1 else D.nx σ S1
def sWhileD (c : TTD) (tb : TSD) : TSD := fun D σ S => ∃ n, whileN c tb D n σ S
theorem ds_while {c : Expr} {body : List Stmt} {tc : TTD} {tb : TSD} (hp : PassesOwn (model X.prog X.w) X.A X.env X.xe) (hc : DT X c tc) (hb : DSs X body tb) : DS X (.While c body [] pos) (sWhileD tc tb) :=
  (ps_while hp hc hb).imp fun D σ H ⟨G, σd, S, Dd, rs, rh, ⟨n, t⟩, p⟩ => by
    refine ⟨fun m σ2 H2 => ∃ σd2 S2, FL S H S2 H2 ∧ RSl X.K G S2 H2 σd2 σ2 ∧ RH X.K G S2 H2 ∧ whileN tc tb Dd m σd2 S2, ⟨n, σd, S, .refl _ _, rs, rh, t⟩, ?_⟩
    rintro m σ2 H2 ⟨σd2, S2, f2, rs2, rh2, t2⟩
    cases m with
    | zero => exact t2.elim
    | succ m =>
      refine ⟨G, σd2, S2, _, rs2, rh2, t2, fun S3 b H3 f3 rh3 t3 => ?_⟩
      have f13 := f2.trans f3
      cases b with
      | true =>
        refine iteT ?_
        exact ⟨fun σ' H' => ∃ σd2 S2, FL S H S2 H' ∧ RSl X.K G S2 H' σd2 σ' ∧ RH X.K G S2 H' ∧ whileN tc tb Dd m σd2 S2, fun σ' H' n => ⟨m, Nat.lt_succ_self _, n⟩,
          G, σd2, S3, _, rs2.fl f3, rh3, t3, fun S5 σd5 σ5 H5 f5 rh5 rs5 t5 => ⟨σd5, S5, f13.trans f5, rs5, rh5, t5⟩, p.rt.fl f13, p.nx.fl f13, fun S5 σd5 σ5 H5 f5 rh5 rs5 t5 => ⟨σd5, S5, f13.trans f5, rs5, rh5, t5⟩, (p.fl f13).xr⟩
      | false =>
        refine iteF ?_
        exact p.nx S3 _ _ H3 f13 rh3 (rs2.fl f3) t3
end
end PD
end
section
/-! PD4: what a def promises over deep values; calls; comprehensions. -/
namespace PD
open PySem PySem.Spec PyProof.Rows L2
structure RoomG (k : Nat) (A : Around) : Prop where
  rm : Room k A
  gd : A.guards = some []
theorem RoomG.mono {j k : Nat} {A : Around} (r : RoomG k A) (h : j ≤ k) : RoomG j A := ⟨r.rm.mono h, r.gd⟩
theorem RoomG.deeper {k : Nat} {A : Around} (r : RoomG (k + 1) A) (env : Env) : RoomG k (A.deeper env) := ⟨r.rm.deeper env, r.gd⟩
theorem RoomG.un1 {k : Nat} {A : Around} (r : RoomG k A) : A.units + 1 < cLine := hu_of r.rm
theorem RoomG.un64 {k : Nat} {A : Around} (r : RoomG k A) : A.units + 64 < cLine := r.rm.units
abbrev SpD := List D → HD → QD → Prop
/-- the end of a call -/
def CED (K : PySem.W.Frag) (G : Addr → Prop) (S : HD) (H : Hp) (Qd : QD) : VK := fun v H' => ∃ S' d, FL S H S' H' ∧ RH K G S' H' ∧ RD K G S' H' d v ∧ Qd d S'
structure FnD (P : Program) (w : World) (K : PySem.W.Frag) (mg : Str → Option Value) (base : Heap) (k : Nat) (f : Addr) (fd : FuncData) (ps : List Str) (sp : SpD) : Prop where
  len : ∀ ds S Q, sp ds S Q → ds.length = ps.length
  run : ∀ (A : Around) (outer : List Env) (s : Shared) (H : Hp) (args : Args) (us : List Value) (vs : List V) (ds : List D) (G : Addr → Prop) (S : HD) (Qd : QD), RoomG k A → Env0 P w K mg base A outer s H →
    BindsTo s fd args (ps.zip us) → Vals vs us → RDs K G S H ds vs → RH K G S H → sp ds S Qd → codeAny (model P w) A (.call (.ref f) args) (CR CX0 outer P w H s (CED K G S H Qd) E0) s
theorem FnD.mono {P : Program} {w : World} {K : PySem.W.Frag} {mg : Str → Option Value} {base : Heap} {j k : Nat} {f : Addr} {fd : FuncData} {ps : List Str} {sp : SpD} (F : FnD P w K mg base j f fd ps sp) (h : j ≤ k) : FnD P w K mg base k f fd ps sp :=
  ⟨F.len, fun A outer s H args us vs ds G S Qd hr => F.run A outer s H args us vs ds G S Qd (hr.mono h)⟩
theorem FnD.imp {P : Program} {w : World} {K : PySem.W.Frag} {mg : Str → Option Value} {base : Heap} {k : Nat} {f : Addr} {fd : FuncData} {ps : List Str} {sp sp' : SpD} (F : FnD P w K mg base k f fd ps sp) (h : ∀ ds S Q, sp' ds S Q → sp ds S Q) : FnD P w K mg base k f fd ps sp' :=
  ⟨fun ds S Q q => F.len ds S Q (h _ _ _ q), fun A outer s H args us vs ds G S Qd hr e b v r rh q => F.run A outer s H args us vs ds G S Qd hr e b v r rh (h _ _ _ q)⟩
/-- a def of the module by its name -/
structure Has (P : Program) (w : World) (K : PySem.W.Frag) (mg : Str → Option Value) (base : Heap) (k : Nat) (x : Str) (ps : List Str) (sp : SpD) : Prop where
  ex : ∃ f fd, mg x = some (.ref f) ∧ PySem.W.keepIn K (.ref f) = true ∧ Binds K fd ps [] ∧ FnD P w K mg base k f fd ps sp
theorem Has.mono {P : Program} {w : World} {K : PySem.W.Frag} {mg : Str → Option Value} {base : Heap} {j k : Nat} {x : Str} {ps : List Str} {sp : SpD} (h : Has P w K mg base j x ps sp) (l : j ≤ k) : Has P w K mg base k x ps sp :=
  let ⟨f, fd, a, b, c, d⟩ := h.ex; ⟨f, fd, a, b, c, d.mono l⟩
theorem Has.imp {P : Program} {w : World} {K : PySem.W.Frag} {mg : Str → Option Value} {base : Heap} {k : Nat} {x : Str} {ps : List Str} {sp sp' : SpD} (h : Has P w K mg base k x ps sp) (i : ∀ ds S Q, sp' ds S Q → sp ds S Q) : Has P w K mg base k x ps sp' :=
  let ⟨f, fd, a, b, c, d⟩ := h.ex; ⟨f, fd, a, b, c, d.imp i⟩
def tCallD (sp : SpD) (ta : TAD) : TED := fun σ S Q => ta σ S fun ds S1 => sp ds S1 Q
section
variable {X : Cx} {k : Nat} {f : Addr} {fd : FuncData} {ps : List Str} {sp : SpD} {x : Str} {p pos : Pos} {e : Expr} {es : List Expr} {ta : TAD}
/-- the callee runs, from a body -/
theorem run_fnD {pins : List (Addr × Obj)} {σ : L2.St} {H : Hp} {s : Shared} {us : List Value} {vs : List V} {ds : List D} {G : Addr → Prop} {S : HD} {Qd : QD} {Q : VK}
    (F : FnD X.prog X.w X.K X.mg X.base k f fd ps sp) (hr : RoomG k X.A) (hb : Binds X.K fd ps []) (I : Inv X pins σ H s) (r : Vals vs us) (q : RDs X.K G S H ds vs) (rh : RH X.K G S H) (h : sp ds S Qd) (p : Post X.K G S H Qd Q) :
    wpAny (model X.prog X.w) X.A (call (.ref f) us) (EP X pins σ Q) X.xe s := by
  have hl : us.length = ps.length := by
    have h1 := F.len _ _ _ h
    have h2 := q.length
    have h3 := r.length
    omega
  have hb' := hb s us I.kIn (by rw [List.append_nil]; exact hl)
  rw [List.append_nil] at hb'
  refine wpAny_call (codeAny_mono (F.run X.A X.stack s H ⟨us, []⟩ us vs ds G S Qd hr I.env0 hb' r q rh h) fun z s' hq => ?_)
  cases z with
  | error e => exact False.elim hq
  | ok fl =>
    cases fl with
    | ret u =>
      have hq' : CE X.stack X.prog X.w H s Q u s' := by
        obtain ⟨v, H', h1, h2, h3, h4, h5, S', d, f', rh', rd', qd⟩ := hq
        exact ⟨v, H', h1, h2, h3, h4, h5, p S' d v H' f' rh' rd' qd⟩
      exact I.after hq'
    | next => exact False.elim hq
    | brk => exact False.elim hq
    | cont => exact False.elim hq
theorem de_call (h : Has X.prog X.w X.K X.mg X.base k x ps sp) (hr : RoomG k X.A) (ha : DA X (e :: es) ta) (hg : Gl X x := by rfl) (hdb : (x == ("__debug__" : Str)) = false := by decide)
    (he : starEach (e :: es) X.env = (false, eval e X.env) :: starEach es X.env := by rfl) (hpl : (backTo pos (starEach es X.env)).any (·.1) = false := by rfl) :
    DE X (.Call (.Name x p) (e :: es) [] pos) (tCallD sp ta) := by
  obtain ⟨f, fd, hm, hk, hb, F⟩ := h.ex
  refine ⟨fun pins s σ H Q I ⟨G, σd, S, Qd, rs, rh, t, p⟩ => ?_⟩
  refine wpAny_Call_Name_kw (ld_glob I hg hm ?_ hdb)
  have hA := ha.run pos pins s σ H (fun vs H1 => ∃ S1 ds, FL S H S1 H1 ∧ RH X.K G S1 H1 ∧ RDs X.K G S1 H1 ds vs ∧ sp ds S1 Qd) I ⟨G, σd, S, _, rs, rh, t, fun S1 ds vs H1 f1 rh1 q1 t1 => ⟨S1, ds, f1, rh1, q1, t1⟩⟩
  refine PySem.W.callWith_K (h₀ := X.base) I.ok.mod.kin hk ?_ he hpl
  refine thn hA fun us s1 hus => ?_
  obtain ⟨vs, H1, I1, r, S1, ds, f1, rh1, q1, t1⟩ := hus
  exact ⟨I1.kIn, run_fnD F hr hb I1 r q1 rh1 t1 (p.fl f1)⟩
end
/-! ### a def by its body -/
/-- the same value, told otherwise -/
def Cv (d : D) (S : HD) (d' : D) (S' : HD) : Prop := ∀ (K : PySem.W.Frag) (G : Addr → Prop) (H : Hp) (v : V), RH K G S H → RD K G S H d v → RH K G S' H ∧ FL S H S' H ∧ RD K G S' H d' v
theorem Cv.le {d : D} {S S' : HD} (l : HLe S' S) : Cv d S d S' := fun K G H v r q => ⟨r.le l, l.fl, q.mv l.mv⟩
theorem Cv.trans {d d1 d2 : D} {S S1 S2 : HD} (a : Cv d S d1 S1) (b : Cv d1 S1 d2 S2) : Cv d S d2 S2 := fun K G H v r q =>
  let ⟨r1, f1, q1⟩ := a K G H v r q; let ⟨r2, f2, q2⟩ := b K G H v r1 q1; ⟨r2, f1.trans f2, q2⟩
/-- a tracked list is frozen -/
theorem del_le (S : HD) (a : Addr) : HLe (S.del a) S := ⟨fun b u z => by
  unfold HD.del at z
  by_cases hb : b = a
  · simp [hb] at z
  · simpa [hb] using z, Nat.le_refl _, rfl⟩
theorem Cv.frz {a : Addr} {S : HD} {xs : List D} (h : S.hp a = some (.lst xs)) : Cv (.ref a) S (.lst xs) (S.del a) := fun K G H v r q => by
  obtain ⟨h1, h2, vs, h3, h4⟩ := r.hp a _ h
  cases q
  exact ⟨r.le (del_le S a), (del_le S a).fl, .lst (.inl ⟨⟨by simp [HD.del], fun z => h1 ((del_le S a).dkE.mp z), h2⟩, .inl h3⟩) (h4.mv (del_le S a).mv)⟩
/-- the end of a body: what is not wanted any more is forgotten -/
def fin (Q : QD) : QD := fun d S => ∃ S' d', Cv d S d' S' ∧ Q d' S'
theorem fin.le {Q : QD} {d : D} {S S' : HD} (l : HLe S S') (q : Q d S) : fin Q d S' := ⟨S, d, .le l, q⟩
theorem fin.frz {Q : QD} {a : Addr} {S S' : HD} {xs : List D} (h : S'.hp a = some (.lst xs)) (l : HLe S (S'.del a)) (q : Q (.lst xs) S) : fin Q (.ref a) S' := ⟨S, _, (Cv.frz h).trans (.le l), q⟩
def pad : Nat → List D → SD
  | 0, _ => []
  | n + 1, [] => none :: pad n []
  | n + 1, d :: r => some d :: pad n r
theorem pad_len : ∀ (n : Nat) (ds : List D), (pad n ds).length = n
  | 0, _ => rfl
  | n + 1, [] => by simp [pad, pad_len n []]
  | n + 1, d :: r => by simp [pad, pad_len n r]
theorem pad_nil (n : Nat) {i : Nat} {d : D} : (pad n [])[i]? ≠ some (some d) := by
  induction n generalizing i with
  | zero => simp [pad]
  | succ n ih =>
    cases i with
    | zero => simp [pad]
    | succ i => simpa [pad] using ih
theorem pad_slots {K : PySem.W.Frag} {G : Addr → Prop} {S : HD} {H : Hp} : ∀ {n : Nat} {ds : List D} {vs : List V} {i : Nat} {d : D}, RDs K G S H ds vs → (pad n ds)[i]? = some (some d) → ∃ v, vs[i]? = some v ∧ RD K G S H d v
  | 0, _, _, _, _, _, e => by simp [pad] at e
  | n + 1, [], _, i, d, _, e => (pad_nil (n + 1) e).elim
  | n + 1, _ :: _, _, 0, d, .cons q r, e => by
    simp [pad] at e
    subst e
    exact ⟨_, rfl, q⟩
  | n + 1, _ :: _, _, i + 1, d, .cons q r, e => by
    obtain ⟨v, h1, h2⟩ := pad_slots (n := n) (i := i) r (by simpa [pad] using e)
    exact ⟨v, by simpa using h1, h2⟩
section
variable {P : Program} {w : World} {K : PySem.W.Frag} {mg : Str → Option Value} {base : Heap}
/-- the core: the body's reading starts at a state and deep values that tell the same, and ends at what gives the call's end -/
theorem FnD.coreC {x qual : Str} {st : Stmt} {f : Addr} {fd : FuncData} {N ps : List Str} {k : Nat} {sp : SpD} (F : Fun K x qual st f fd) (Sc : FnScope N ps (defScope st)) (t : TSD) (len : ∀ ds S Q, sp ds S Q → ds.length = ps.length)
    (hd : ∀ (cdv : Value) (A : Around) (outer : List Env) (s : Shared) (H : Hp), fd.code = cdv → RoomG k (A.deeper (envOfC qual (defScope st) s.heap.objs.size f cdv)) →
      DSs (cxOf CX0 P w K mg base N qual (defScope st) f cdv A outer s H E0).nox (defBody st) t)
    (hq : ∀ ds S Qd, sp ds S Qd → ∀ G H vs, RH K G S H → RDs K G S H ds vs → ∃ ds' S0 Dd, RH K G S0 H ∧ RDs K G S0 H ds' vs ∧ t Dd (pad N.length ds') S0 ∧
      (∀ S' d v H', FL S0 H S' H' → RH K G S' H' → RD K G S' H' d v → Dd.rt d S' → CED K G S H Qd v H') ∧ (∀ S' σd H', FL S0 H S' H' → RH K G S' H' → Dd.nx σd S' → CED K G S H Qd .non H') ∧ (∀ σd S', ¬ Dd.bk σd S') ∧ (∀ σd S', ¬ Dd.ct σd S') ∧ ∀ C σd S', ¬ Dd.xr C σd S') : FnD P w K mg base (k + 1) f fd ps sp := by
  obtain ⟨oc, od, kV, doc, pm, an, cdv, ct, osl, rfl, lk, hcd⟩ := F.ex
  refine ⟨len, fun A outer s H args us vs ds G S Qd hr e0 hb r rd rh hsp => ?_⟩
  have hl : vs.length = ps.length := rd.length.symm.trans (len _ _ _ hsp)
  have KX : K.In s.heap := e0.mod.kin.keeps fun b o e => (e0.bs b o e).1
  have lim : s.heap.NoLimit := e0.mod.nolimit.keeps fun b o e => (e0.bs b o e).1
  refine codeAny_call_function hr.rm.depth (KX _ _ lk) rfl Sc.co Sc.gen rfl (PySem.W.codeRec_of KX hcd) (hb _ _ _ _ ?_)
  have hkind : ∀ y ∈ ps.zip us, (defScope st).names.lookup y.1 = some .local ∨ ((defScope st).names.lookup y.1 = some .cell ∧ ((cellsFrom (s.heap.objs.size + 1) (defScope st).names []).lookup y.1).isSome = true) := by
    rintro ⟨n, v⟩ hy
    exact (Sc.par n (List.of_mem_zip hy).1).imp id fun q => ⟨q, PySem.W.cellsFrom_some _ _ _ (.inl q)⟩
  refine wpAny_newFunctionEnv_cells Sc.kind hkind fun env he s1 x1 => ?_
  subst he
  refine ⟨lim.keeps x1.toInCall.keep, codeAny_func ?_⟩
  have I := inv_start (CX := CX0) (E := E0) Sc hr.rm.hd e0 hl r x1
  have ht := hd cdv A outer s H rfl (hr.deeper _)
  obtain ⟨ds', S0, Dd, rh0, rd0, hq0, hrt, hnx, hbk, hct, hxr⟩ := hq ds S Qd hsp G H vs rh rd
  have start_ok : RSl K G S0 H (pad N.length ds') (L2.start N vs) := by
    refine ⟨?_, fun i d e => ?_⟩
    · rw [pad_len]
      unfold L2.start
      have hpl : ps.length ≤ N.length := by have := congrArg List.length Sc.pre; rw [List.length_take] at this; omega
      simp
      omega
    · obtain ⟨v, h1, h2⟩ := pad_slots rd0 e
      refine ⟨v, ?_, h2⟩
      unfold L2.start
      have hi : i < vs.length := (List.getElem?_eq_some_iff.mp h1).1
      rw [List.getElem?_append_left (by simpa using hi), List.getElem?_map, h1]
      rfl
  refine wpAny_mono (ht.run [] s1 (L2.start N vs) H { nx := fun _ H' => CED K G S H Qd .non H', rt := CED K G S H Qd } (I.wish _) ⟨G, _, S0, Dd, start_ok, rh0, hq0, ?_, ?_, ?_, ?_, ?_⟩) (fun fl s' hs => ?_) fun e s' hs => False.elim hs
  · exact fun S' σd σ H' f' rh' rs' q => hnx S' σd H' f' rh' q
  · exact fun S' d v H' f' rh' rd' q => hrt S' d v H' f' rh' rd' q
  · exact fun S' σd σ H' f' rh' rs' q => (hbk _ _ q).elim
  · exact fun S' σd σ H' f' rh' rs' q => (hct _ _ q).elim
  · exact fun C S' σd σ H' f' rh' rs' q => (hxr _ _ _ q).elim
  · cases fl with
    | ret u =>
      obtain ⟨v, σ', H', J, rv, q⟩ := hs
      exact ⟨v, H', J.os, J.bare, J.base, J.hok, rv, q⟩
    | next =>
      obtain ⟨σ', H', J, q⟩ := hs
      exact ⟨V.non, H', J.os, J.bare, J.base, J.hok, rfl, q⟩
    | brk => obtain ⟨_, _, _, q⟩ := hs; exact False.elim q
    | cont => obtain ⟨_, _, _, q⟩ := hs; exact False.elim q
theorem FnD.core {x qual : Str} {st : Stmt} {f : Addr} {fd : FuncData} {N ps : List Str} {k : Nat} {sp : SpD} (F : Fun K x qual st f fd) (Sc : FnScope N ps (defScope st)) (t : TSD) (len : ∀ ds S Q, sp ds S Q → ds.length = ps.length)
    (hd : ∀ (cdv : Value) (A : Around) (outer : List Env) (s : Shared) (H : Hp), RoomG k (A.deeper (envOfC qual (defScope st) s.heap.objs.size f cdv)) →
      DSs (cxOf CX0 P w K mg base N qual (defScope st) f cdv A outer s H E0).nox (defBody st) t)
    (hq : ∀ ds S Qd, sp ds S Qd → ∀ G H vs, RH K G S H → RDs K G S H ds vs → ∃ ds' S0 Dd, RH K G S0 H ∧ RDs K G S0 H ds' vs ∧ t Dd (pad N.length ds') S0 ∧
      (∀ S' d v H', FL S0 H S' H' → RH K G S' H' → RD K G S' H' d v → Dd.rt d S' → CED K G S H Qd v H') ∧ (∀ S' σd H', FL S0 H S' H' → RH K G S' H' → Dd.nx σd S' → CED K G S H Qd .non H') ∧ (∀ σd S', ¬ Dd.bk σd S') ∧ (∀ σd S', ¬ Dd.ct σd S') ∧ ∀ C σd S', ¬ Dd.xr C σd S') : FnD P w K mg base (k + 1) f fd ps sp :=
  FnD.coreC F Sc t len (fun cdv A outer s H _ => hd cdv A outer s H) hq
theorem FnD.ofC {x qual : Str} {st : Stmt} {f : Addr} {fd : FuncData} {N ps : List Str} {k : Nat} {sp : SpD} (F : Fun K x qual st f fd) (Sc : FnScope N ps (defScope st)) (t : TSD) (len : ∀ ds S Q, sp ds S Q → ds.length = ps.length)
    (hd : ∀ (cdv : Value) (A : Around) (outer : List Env) (s : Shared) (H : Hp), fd.code = cdv → RoomG k (A.deeper (envOfC qual (defScope st) s.heap.objs.size f cdv)) →
      DSs (cxOf CX0 P w K mg base N qual (defScope st) f cdv A outer s H E0).nox (defBody st) t)
    (hq : ∀ ds S Qd, sp ds S Qd → t { nx := fun _ S' => fin Qd .non S', rt := fin Qd } (pad N.length ds) S) : FnD P w K mg base (k + 1) f fd ps sp := by
  refine FnD.coreC F Sc t len hd fun ds S Qd hsp G H vs rh rd => ⟨ds, S, { nx := fun _ S' => fin Qd .non S', rt := fin Qd }, rh, rd, hq ds S Qd hsp, ?_, ?_, fun _ _ h => h, fun _ _ h => h, fun _ _ _ h => h⟩
  · exact fun S' d v H' f' rh' rd' ⟨S2, d2, cv, q⟩ => let ⟨r2, f2, q2⟩ := cv K G H' v rh' rd'; ⟨S2, d2, f'.trans f2, r2, q2, q⟩
  · exact fun S' σd H' f' rh' ⟨S2, d2, cv, q⟩ => let ⟨r2, f2, q2⟩ := cv K G H' .non rh' .non; ⟨S2, d2, f'.trans f2, r2, q2, q⟩
theorem FnD.of {x qual : Str} {st : Stmt} {f : Addr} {fd : FuncData} {N ps : List Str} {k : Nat} {sp : SpD} (F : Fun K x qual st f fd) (Sc : FnScope N ps (defScope st)) (t : TSD) (len : ∀ ds S Q, sp ds S Q → ds.length = ps.length)
    (hd : ∀ (cdv : Value) (A : Around) (outer : List Env) (s : Shared) (H : Hp), RoomG k (A.deeper (envOfC qual (defScope st) s.heap.objs.size f cdv)) →
      DSs (cxOf CX0 P w K mg base N qual (defScope st) f cdv A outer s H E0).nox (defBody st) t)
    (hq : ∀ ds S Qd, sp ds S Qd → t { nx := fun _ S' => fin Qd .non S', rt := fin Qd } (pad N.length ds) S) : FnD P w K mg base (k + 1) f fd ps sp := FnD.ofC F Sc t len (fun cdv A outer s H _ => hd cdv A outer s H) hq
/-- by its name -/
theorem Has.of {x : Str} {st : Stmt} {f : Addr} {fd : FuncData} {ps : List Str} {k : Nat} {sp : SpD} (F : Fun K x x st f fd) (hm : mg x = some (.ref f)) (hb : Binds K fd ps []) (h : FnD P w K mg base k f fd ps sp) : Has P w K mg base k x ps sp :=
  ⟨⟨f, fd, hm, F.kp, hb, h⟩⟩
end
/-! ### comprehensions -/
/-- over the items: what is made so far -/
def lcD (g : TGD) (tt : TTD) (te : TED) (σ : SD) (keep : HD → Prop) (Q : List D → HD → Prop) : List D → List D → HD → Prop
  | [], acc, S => keep S ∧ Q acc S
  | d :: r, acc, S => keep S ∧ g d σ S fun σ2 S2 => tt σ2 S2 fun b S3 => if b = true then te σ2 S3 fun y S4 => lcD g tt te σ keep Q r (acc ++ [y]) S4 else lcD g tt te σ keep Q r acc S3
def tYesD : TTD := fun _ S Q => Q true S
abbrev DTs (X : Cx) (ifs : List Expr) (t : TTD) : Prop := PTs X ifs (upT X.K t)
theorem _root_.L2.PTs.imp {X : Cx} {e : List Expr} {t t' : TT} (h : PTs X e t) (i : ∀ σ H Q, t' σ H Q → t σ H Q) : PTs X e t' := ⟨fun pins s σ H Q I q => h.run pins s σ H Q I (i _ _ _ q)⟩
theorem dts_nil {X : Cx} : DTs X [] tYesD := pts_nil.imp fun σ H Q ⟨G, σd, S, Qd, rs, rh, t, p⟩ => p.here rh t
theorem dts_one {X : Cx} {c : Expr} {t : TTD} (h : DT X c t) : DTs X [c] t := pts_one h
def tLcV (ti : TID) (g : TGD) (tt : TTD) (te : TED) (vs : List Nat) : TED := fun σ S Q => ti σ S fun xs keep S1 => xs.length ≤ sizeLine ∧ lcD g tt te (wipeD σ vs) keep (fun acc S2 => Q (.lst acc) S2) xs [] S1
def tLcR (ti : TID) (g : TGD) (tt : TTD) (te : TED) (vs : List Nat) : TED := fun σ S Q => ti σ S fun xs keep S1 => xs.length ≤ sizeLine ∧ lcD g tt te (wipeD σ vs) keep (fun acc S2 => ∀ p, S2.hp p = none → Q (.ref p) (S2.set p (.lst acc))) xs [] S1
/-- targets that store into the block's own slots alone -/
def upGw (K : PySem.W.Frag) (ws : List Nat) (t : TGD) : TG := fun v σ H Q => ∃ G σd S d Qd, RSl K G S H σd σ ∧ RH K G S H ∧ RD K G S H d v ∧ t d σd S Qd ∧ ∀ S' σd' σ' H', FL S H S' H' → RH K G S' H' → RSl K G S' H' σd' σ' → wipe σ' ws = wipe σ ws → Qd σd' S' → Q σ' H'
abbrev DGw (X : Cx) (ws : List Nat) (tg : Expr) (t : TGD) : Prop := PG X tg (upGw X.K ws t)
theorem wipe_set {i : Nat} {v : Option V} : ∀ {ws : List Nat} {σ : L2.St}, i ∈ ws → wipe (σ.set i v) ws = wipe σ ws
  | [], _, h => by cases h
  | w :: ws, σ, h => by
    unfold wipe
    by_cases hw : i ∈ ws
    · rw [wipe_set hw]
    · obtain rfl : i = w := by
        rcases List.mem_cons.mp h with e | e
        · exact e
        · exact absurd e hw
      have : ∀ (us : List Nat) (τ : L2.St), i ∉ us → wipe (τ.set i v) us = (wipe τ us).set i v := by
        intro us
        induction us with
        | nil => intro τ _; rfl
        | cons u us ih =>
          intro τ hu
          unfold wipe
          rw [ih τ (fun z => hu (List.mem_cons_of_mem _ z)), List.set_comm _ _ (fun z => hu (by rw [z]; exact List.mem_cons_self))]
      rw [this ws σ hw, List.set_set]
theorem dgw_name {X : Cx} (i : Nat) {ws : List Nat} {e : Expr} (hw : i ∈ ws) (h : PG X e (gName i)) : DGw X ws e (gNameD i) :=
  h.imp fun v σ H Q ⟨G, σd, S, d, Qd, rs, rh, q, t, p⟩ => p S _ _ H (.refl _ _) rh (by rw [st_eq]; exact rs.set q i) (wipe_set hw) t
section
variable {K : PySem.W.Frag} {G : Addr → Prop} {S : HD} {H : Hp}
def Res (G : Addr → Prop) (p : Addr) : Addr → Prop := fun b => G b ∨ b = p
/-- a place that is held back may change: nothing names it -/
theorem res_mv {p : Addr} {o : HO} : Mv (Res G p) S H (Res G p) S (upd H p o) := ⟨fun a u e z => ⟨z, by rw [upd_ne (fun q => z.2.2 (.inr q))]; exact e⟩, fun _ e => e⟩
theorem RH.res (r : RH K G S H) {p : Addr} (h : H p = none) (o : HO) : RH K (Res G p) S (upd H p o) where
  hp := fun a u e => by
    obtain ⟨h1, h2, h3⟩ := (r.grow (Grow.upd h (o := o))).hp a u e
    have ne : a ≠ p := fun z => by rw [z, (r.fresh h).1] at e; cases e
    refine ⟨h1, fun z => z.elim h2 ne, ?_⟩
    obtain ⟨_, _, h3'⟩ := r.hp a u e
    exact h3'.mv (m := ⟨fun b w q z => by
      have nb := ne_of_none q h
      exact ⟨⟨z.1, z.2.1, fun g => g.elim z.2.2 nb⟩, by rw [upd_ne nb]; exact q⟩, fun _ q => q⟩) (upd_ne ne)
  rs := fun a g => by
    rcases g with g | g
    · obtain ⟨⟨u, e⟩, d⟩ := r.rs a g
      exact ⟨⟨u, (Grow.upd h).kp a u e⟩, d⟩
    · subst g
      exact ⟨⟨o, upd_same⟩, (r.fresh h).2.1⟩
  dk := (r.grow (Grow.upd h (o := o))).dk
/-- into the block -/
theorem res_in {p : Addr} {o : HO} (h : H p = none) : Mv G S H (Res G p) S (upd H p o) := ⟨fun b w q z => by
  have nb := ne_of_none q h
  exact ⟨⟨z.1, z.2.1, fun g => g.elim z.2.2 nb⟩, by rw [upd_ne nb]; exact q⟩, fun _ q => q⟩
/-- the held place is written -/
theorem RH.resW (r : RH K (Res G p) S H) (o : HO) : RH K (Res G p) S (upd H p o) where
  hp := fun a u e => by
    obtain ⟨h1, h2, h3⟩ := r.hp a u e
    exact ⟨h1, h2, h3.mv res_mv (upd_ne fun z => h2 (.inr z))⟩
  rs := fun a g => by
    obtain ⟨⟨u, e⟩, d⟩ := r.rs a g
    by_cases ha : a = p
    · subst ha; exact ⟨⟨o, upd_same⟩, d⟩
    · exact ⟨⟨u, by rw [upd_ne ha]; exact e⟩, d⟩
  dk := fun a b e => by
    obtain ⟨h1, h2, h3, cs, n, h4, h5, h6⟩ := r.dk a b e
    have hp := (r.rs p (.inr rfl)).2
    have na : a ≠ p := fun z => hp ⟨_, e, .inl z.symm⟩
    have nb : b ≠ p := fun z => hp ⟨_, e, .inr z.symm⟩
    exact ⟨h1, h2, h3, cs, n, by rw [upd_ne na]; exact h4, by rw [upd_ne nb]; exact h5, h6⟩
/-- out of the block: the place is free to be named -/
theorem res_out {p : Addr} : Mv (Res G p) S H G S H := ⟨fun a o e z => ⟨⟨z.1, z.2.1, fun g => z.2.2 (.inl g)⟩, e⟩, fun _ e => e⟩
theorem RH.resOut (r : RH K (Res G p) S H) : RH K G S H where
  hp := fun a u e => by
    obtain ⟨h1, h2, h3⟩ := r.hp a u e
    exact ⟨h1, fun g => h2 (.inl g), h3.mv res_out rfl⟩
  rs := fun a g => r.rs a (.inl g)
  dk := r.dk
theorem RH.resFree (r : RH K (Res G p) S H) : S.hp p = none ∧ ¬ Dk S p := by
  refine ⟨?_, (r.rs p (.inr rfl)).2⟩
  cases e : S.hp p with
  | none => rfl
  | some o => exact ((r.hp p o e).2.1 (.inr rfl)).elim
end
section
variable {X : Cx} {elt tg iter : Expr} {ifs : List Expr} {scope : Scope} {own : List (Str × Nat)} {pos : Pos} {ti : TID} {g : TGD} {tt : TTD} {te : TED}
theorem FL.updp {S S' : HD} {H H' : Hp} {p : Addr} {o : HO} (f : FL S H S' H') (h : H p = none) : FL S H S' (upd H' p o) :=
  ⟨fun a u e n d => let ⟨n', d', e'⟩ := f.kp a u e n d; ⟨n', d', by rw [upd_ne (ne_of_none e h)]; exact e'⟩, f.dk⟩
/-- the loop of a comprehension, by the reading; Qf: what is wanted of the list at p -/
theorem lc_up {K : PySem.W.Frag} {vs : List Nat} {G : Addr → Prop} {S1 : HD} {H1 : Hp} {σd : SD} {σ : L2.St} {J : It} {xs : List D} {keep : HD → Prop} {Qd : List D → HD → Prop} {Q : VK}
    (rs1 : RSl K G S1 H1 σd σ) (rh1 : RH K G S1 H1) (hJ : ∀ G' S2 H2, Mv G S1 H1 G' S2 H2 → RH K G' S2 H2 → ItOk K G' S2 H2 J xs keep) (hz : xs.length ≤ sizeLine)
    (t : lcD g tt te (wipeD σd vs) keep Qd xs [] S1) {p : Addr} (hp : H1 p = none)
    (fin : ∀ S2 H2 accd acc, FL S1 H1 S2 H2 → RH K (Res G p) S2 H2 → H2 p = some (.lst acc) → RDs K (Res G p) S2 H2 accd acc → Qd accd S2 → Q (.ref p) H2) :
    ∃ W : Nat → Nat → Hp → Prop, (∃ m, W 0 m (upd H1 p (.lst []))) ∧ ∀ i m H, W i m H →
      (J.stop i H ∧ Q (.ref p) H) ∨ (J.go i H ∧ ∃ Nx : Hp → Prop, (∀ H', Nx H' → ∃ m', m' < m ∧ W (i + 1) m' H') ∧ ∀ x H', J.yld i H x H' → upGw K vs g x (wipe σ vs) H' fun σ2 H2 => wipe σ2 vs = wipe σ vs ∧ upT K tt σ2 H2 fun b H3 =>
        if b = true then up K te σ2 H3 fun y H4 => ∃ acc, H4 p = some (.lst acc) ∧ acc.length < sizeLine ∧ Nx (upd H4 p (.lst (acc ++ [y]))) else Nx H3) := by
  have wipe2 : ∀ (us : List Nat) (τ : L2.St), wipe (wipe τ us) us = wipe τ us := by
    intro us τ
    have key : ∀ (ws : List Nat) (τ : L2.St), (∀ u ∈ us, u ∈ ws) → wipe (wipe τ us) ws = wipe τ ws := by
      induction us with
      | nil => intro ws τ _; rfl
      | cons u us ih =>
        intro ws τ h
        show wipe ((wipe τ us).set u none) ws = _
        rw [wipe_set (h u List.mem_cons_self)]
        exact ih ws τ fun v hv => h v (List.mem_cons_of_mem _ hv)
    exact key us τ fun _ h => h
  refine ⟨fun i m H => m = xs.length - i ∧ i ≤ xs.length ∧ ∃ S2 accd acc, FL S1 H1 S2 H ∧ RH K (Res G p) S2 H ∧ H p = some (.lst acc) ∧ RDs K (Res G p) S2 H accd acc ∧ RSl K (Res G p) S2 H (wipeD σd vs) (wipe σ vs) ∧ acc.length ≤ i ∧ lcD g tt te (wipeD σd vs) keep Qd (xs.drop i) accd S2,
    ⟨xs.length, by simp, Nat.zero_le _, S1, [], [], (Grow.upd hp).fl, rh1.res hp _, upd_same, .nil, (rs1.wipe vs).mv (res_in hp), Nat.zero_le _, t⟩, ?_⟩
  rintro i m H ⟨rfl, hi, S2, accd, acc, f2, rh2, hacc, racc, rsl2, hlen, t2⟩
  have ok := hJ (Res G p) S2 H ⟨fun a o e z => let ⟨n1, n2, n3⟩ := f2.kp a o e z.1 z.2.1; ⟨⟨n1, n2, fun g => g.elim z.2.2 (ne_of_none e hp)⟩, n3⟩, f2.dk⟩ rh2
  by_cases hlt : i < xs.length
  · have hx : xs[i]? = some xs[i] := by simp [hlt]
    rw [List.drop_eq_getElem_cons hlt] at t2
    obtain ⟨k2, t2⟩ := t2
    obtain ⟨go, yl⟩ := ok.go i _ S2 H hx (.refl _ _) rh2 k2
    refine .inr ⟨go, fun H' => ∃ S2 accd acc, FL S1 H1 S2 H' ∧ RH K (Res G p) S2 H' ∧ H' p = some (.lst acc) ∧ RDs K (Res G p) S2 H' accd acc ∧ RSl K (Res G p) S2 H' (wipeD σd vs) (wipe σ vs) ∧ acc.length ≤ i + 1 ∧ lcD g tt te (wipeD σd vs) keep Qd (xs.drop (i + 1)) accd S2, fun H' n => ⟨_, by omega, rfl, hlt, n⟩, fun x H3 y => ?_⟩
    obtain ⟨f3, rh3, q3⟩ := yl x H3 y
    have pk : ∀ {S5 : HD} {H5 : Hp}, FL S2 H S5 H5 → H5 p = some (.lst acc) := fun {S5 H5} f => (f.kp p _ hacc (RH.resFree rh2).1 (RH.resFree rh2).2).2.2
    refine ⟨Res G p, _, S2, _, _, rsl2.fl f3, rh3, q3, t2, fun S4 σd4 σ4 H4 f4 rh4 rs4 w4 t4 => ⟨?_, ?_⟩⟩
    · rw [wipe2] at w4; exact w4
    refine ⟨Res G p, σd4, S4, _, rs4, rh4, t4, fun S5 b H5 f5 rh5 t5 => ?_⟩
    have f25 := f3.trans (f4.trans f5)
    have f15 := f2.trans f25
    cases b with
    | false =>
      refine iteF ?_
      rw [if_neg Bool.false_ne_true] at t5
      exact ⟨S5, accd, acc, f15, rh5, pk f25, racc.fl f25, rsl2.fl f25, Nat.le_succ_of_le hlen, t5⟩
    | true =>
      refine iteT ?_
      rw [if_pos rfl] at t5
      refine ⟨Res G p, σd4, S5, _, rs4.fl f5, rh5, t5, fun S6 d v H6 f6 rh6 q6 t6 => ?_⟩
      have f26 := f25.trans f6
      refine ⟨acc, pk f26, by omega, S6, accd ++ [d], acc ++ [v], (f2.trans f26).updp hp, rh6.resW _, upd_same, ((racc.fl f26).append (.cons q6 .nil)).mv res_mv, (rsl2.fl f26).mv res_mv, by simp; omega, t6⟩
  · have e : i = xs.length := by omega
    subst e
    rw [List.drop_length] at t2
    exact .inl ⟨ok.stop S2 H (.refl _ _) rh2 t2.1, fin S2 H accd acc f2 rh2 hacc racc t2.2⟩
theorem de_lcV (hN : X.N.Nodup) (hi : DI X tg iter ti) (ok : BlkOk X.N X.env.scope scope own)
    (hg : ∀ (s : Shared) (H : Hp) (C : Addr) (cl : List (Str × Addr)) (fp : List Addr), DGw (X.blk s H scope (compEnvC scope cl C X.env) fp) (own.map (·.2)) tg g) (ht : ∀ (s : Shared) (H : Hp) (C : Addr) (cl : List (Str × Addr)) (fp : List Addr), DTs (X.blk s H scope (compEnvC scope cl C X.env) fp) ifs tt)
    (he : ∀ (s : Shared) (H : Hp) (C : Addr) (cl : List (Str × Addr)) (fp : List Addr), DE (X.blk s H scope (compEnvC scope cl C X.env) fp) elt te) (hc : X.calm = true := by rfl) (hs : ∀ x, foldedSetIterable iter X.env x = pure x := by intro _; rfl) :
    DE X (.ListComp elt [⟨tg, iter, ifs, 0⟩] scope pos) (tLcV ti g tt te (own.map (·.2))) :=
  (pe_lc hc hN hi ok hg ht he hs).imp fun σ H Q ⟨G, σd, S, Qd, rs, rh, t, p⟩ =>
    ⟨G, σd, S, _, rs, rh, t, fun S1 J xs keep H1 f1 rh1 hJ ⟨hz, t1⟩ q hq => lc_up (rs.fl f1) rh1 hJ hz t1 hq fun S2 H2 accd acc f2 rh2 hacc racc qd =>
      p S2 _ _ H2 (f1.trans f2) rh2.resOut (.lst (.inl ⟨⟨(RH.resFree rh2).1, (RH.resFree rh2).2, fun g => by
        obtain ⟨⟨o, e⟩, _⟩ := rh1.rs q g
        rw [hq] at e; cases e⟩, .inl hacc⟩) (racc.mv res_out)) qd⟩
theorem up_lcR {K : PySem.W.Frag} {vs : List Nat} {Q : VK} {Qd : QD} {G : Addr → Prop} {S : HD} {H : Hp} (rh : RH K G S H) (p : Post K G S H Qd Q) {S1 : HD} {H1 : Hp} (f1 : FL S H S1 H1) (rh1 : RH K G S1 H1) {q : Addr} (hq : H1 q = none)
    {S2 : HD} {H2 : Hp} {accd : List D} {acc : List V} (f2 : FL S1 H1 S2 H2) (rh2 : RH K (Res G q) S2 H2) (hacc : H2 q = some (.lst acc)) (racc : RDs K (Res G q) S2 H2 accd acc) (qd : ∀ p, S2.hp p = none → Qd (.ref p) (S2.set p (.lst accd))) : Q (.ref q) H2 := by
  have n2 := (RH.resFree rh2).1
  have d2 := (RH.resFree rh2).2
  have mv : Mv (Res G q) S2 H2 G (S2.set q (.lst accd)) H2 := ⟨fun a o e z => by
    have ne : a ≠ q := fun w => z.2.2 (.inr w)
    exact ⟨⟨by rw [HD.set_ne ne]; exact z.1, z.2.1, fun g => z.2.2 (.inl g)⟩, e⟩, fun _ e => e⟩
  have ngq : ¬ G q := fun g => by
    obtain ⟨⟨o, e⟩, _⟩ := rh1.rs q g
    rw [hq] at e; cases e
  have rh3 : RH K G (S2.set q (.lst accd)) H2 := by
    refine ⟨fun a u e => ?_, fun a g => rh2.rs a (.inl g), fun a b e => ?_⟩
    · by_cases ha : a = q
      · subst ha
        rw [HD.set_same] at e; cases e
        exact ⟨d2, ngq, acc, hacc, racc.mv mv⟩
      · rw [HD.set_ne ha] at e
        obtain ⟨h1, h2, h3⟩ := rh2.hp a u e
        exact ⟨h1, fun g => h2 (.inl g), h3.mv mv rfl⟩
    · obtain ⟨h1, h2, h3, h4⟩ := rh2.dk a b e
      have na : a ≠ q := fun z => d2 ⟨_, e, .inl z.symm⟩
      have nb : b ≠ q := fun z => d2 ⟨_, e, .inr z.symm⟩
      exact ⟨h1, by rw [HD.set_ne na]; exact h2, by rw [HD.set_ne nb]; exact h3, h4⟩
  have f3 : FL S1 H1 (S2.set q (.lst accd)) H2 := ⟨fun a o e n d => by
    obtain ⟨n', d', e'⟩ := f2.kp a o e n d
    exact ⟨by rw [HD.set_ne (ne_of_none e hq)]; exact n', d', e'⟩, f2.dk⟩
  exact p _ _ _ H2 (f1.trans f3) rh3 (.ref q) (qd q n2)
theorem de_lcR (hN : X.N.Nodup) (hi : DI X tg iter ti) (ok : BlkOk X.N X.env.scope scope own)
    (hg : ∀ (s : Shared) (H : Hp) (C : Addr) (cl : List (Str × Addr)) (fp : List Addr), DGw (X.blk s H scope (compEnvC scope cl C X.env) fp) (own.map (·.2)) tg g) (ht : ∀ (s : Shared) (H : Hp) (C : Addr) (cl : List (Str × Addr)) (fp : List Addr), DTs (X.blk s H scope (compEnvC scope cl C X.env) fp) ifs tt)
    (he : ∀ (s : Shared) (H : Hp) (C : Addr) (cl : List (Str × Addr)) (fp : List Addr), DE (X.blk s H scope (compEnvC scope cl C X.env) fp) elt te) (hc : X.calm = true := by rfl) (hs : ∀ x, foldedSetIterable iter X.env x = pure x := by intro _; rfl) :
    DE X (.ListComp elt [⟨tg, iter, ifs, 0⟩] scope pos) (tLcR ti g tt te (own.map (·.2))) :=
  (pe_lc hc hN hi ok hg ht he hs).imp fun σ H Q ⟨G, σd, S, Qd, rs, rh, t, p⟩ =>
    ⟨G, σd, S, _, rs, rh, t, fun S1 J xs keep H1 f1 rh1 hJ ⟨hz, t1⟩ q hq => lc_up (rs.fl f1) rh1 hJ hz t1 hq fun S2 H2 accd acc f2 rh2 hacc racc qd => up_lcR rh p f1 rh1 hq f2 rh2 hacc racc qd (vs := [])⟩
/-- name = [..] -/
theorem ds_setLcV (i : Nat) {y : Str} {py spos : Pos} (hN : X.N.Nodup) (hi : DI X tg iter ti) (ok : BlkOk X.N X.env.scope scope own)
    (hg : ∀ (s : Shared) (H : Hp) (C : Addr) (cl : List (Str × Addr)) (fp : List Addr), DGw (X.blk s H scope (compEnvC scope cl C X.env) fp) (own.map (·.2)) tg g) (ht : ∀ (s : Shared) (H : Hp) (C : Addr) (cl : List (Str × Addr)) (fp : List Addr), DTs (X.blk s H scope (compEnvC scope cl C X.env) fp) ifs tt)
    (he : ∀ (s : Shared) (H : Hp) (C : Addr) (cl : List (Str × Addr)) (fp : List Addr), DE (X.blk s H scope (compEnvC scope cl C X.env) fp) elt te) (hy : X.N[i]? = some y := by rfl) (hyl : X.env.scope.names.lookup y = some .local := by rfl)
    (hsw : swapsWith (.ListComp elt [⟨tg, iter, ifs, 0⟩] scope pos) (some (.Name y py)) spos.line X.env = pure true := by exact sw_true rfl rfl rfl (by decide +kernel)) (hc : X.calm = true := by rfl) (hs : ∀ x, foldedSetIterable iter X.env x = pure x := by intro _; rfl) :
    DS X (.Assign [.Name y py] (.ListComp elt [⟨tg, iter, ifs, 0⟩] scope pos) spos) (sAsgD (tLcV ti g tt te (own.map (·.2))) (gNameD i)) :=
  (ps_setLc hc hN hy hyl hsw hi ok hg ht he hs).imp fun E σ H ⟨G, σd, S, Dd, rs, rh, t, p⟩ =>
    ⟨G, σd, S, _, rs, rh, t, fun S1 J xs keep H1 f1 rh1 hJ ⟨hz, t1⟩ q hq => lc_up (Q := fun x H2 => gName i x σ H2 E.nx) (rs.fl f1) rh1 hJ hz t1 hq fun S2 H2 accd acc f2 rh2 hacc racc qd =>
      p.nx S2 _ _ H2 (f1.trans f2) rh2.resOut ((rs.fl (f1.trans f2)).set (d := .lst accd) (.lst (.inl ⟨⟨(RH.resFree rh2).1, (RH.resFree rh2).2, fun g => by
        obtain ⟨⟨o, e⟩, _⟩ := rh1.rs q g
        rw [hq] at e; cases e⟩, .inl hacc⟩) (racc.mv res_out)) i) (st_eq σd i _ ▸ qd)⟩
end
end PD
end
section
/-! PD5: operators, items, slices, built-in calls over deep values; what a loop walks. -/
namespace PD
open PySem PySem.Spec PyProof.Rows L2
/-! ### sizes that every heap keeps -/
def Szs (K : PySem.W.Frag) (H : Hp) : Prop := (∀ a xs, SqL K H a xs → xs.length ≤ sizeLine) ∧ ∀ a xs, SqT K H a xs → xs.length ≤ sizeLine
theorem szs_of {X : Cx} {pins : List (Addr × Obj)} {σ : L2.St} {H : Hp} {s : Shared} (I : Inv X pins σ H s) : Szs X.K H :=
  ⟨fun a xs h => (I.list h).choose_spec.2.2, fun a xs h => (I.tuple h).choose_spec.2.2⟩
theorem _root_.L2.PE.szs {X : Cx} {e : Expr} {t : TE} (h : PE X e t) : PE X e (fun σ H Q => t σ H fun v H1 => Szs X.K H1 → Q v H1) :=
  ⟨fun pins s σ H Q I q => thn (h.run pins s σ H _ I q) fun u s1 ⟨v, H1, I1, r, q1⟩ => ⟨v, H1, I1, r, q1 (szs_of I1)⟩⟩
/-! ### a sequence, by its items -/
def asSeq (S : HD) : D → Option (List D)
  | .tup xs => some xs
  | .lst xs => some xs
  | .ref a => match S.hp a with
    | some (.lst xs) => some xs
    | _ => none
  | _ => none
def asLst (S : HD) : D → Option (List D)
  | .lst xs => some xs
  | .ref a => match S.hp a with
    | some (.lst xs) => some xs
    | _ => none
  | _ => none
section
variable {K : PySem.W.Frag} {G : Addr → Prop} {S : HD} {H : Hp}
theorem asLst_ok (rh : RH K G S H) {d : D} {v : V} {xs : List D} (h : asLst S d = some xs) (q : RD K G S H d v) : ∃ p vs, v = .ref p ∧ SqL K H p vs ∧ RDs K G S H xs vs := by
  cases q with
  | lst h1 r => cases h; exact ⟨_, _, rfl, h1.sq, r⟩
  | ref a =>
    simp only [asLst] at h
    split at h
    · rename_i ys e
      cases h
      obtain ⟨_, _, vs, e1, r⟩ := rh.hp a _ e
      exact ⟨a, vs, rfl, SqL.of e1, r⟩
    · cases h
  | _ => cases h
theorem asSeq_ok (rh : RH K G S H) {d : D} {v : V} {xs : List D} (h : asSeq S d = some xs) (q : RD K G S H d v) : ∃ p vs, v = .ref p ∧ (SqL K H p vs ∨ SqT K H p vs) ∧ RDs K G S H xs vs := by
  cases d with
  | tup ys =>
    cases h
    cases q with
    | tup h1 r => exact ⟨_, _, rfl, .inr h1.sq, r⟩
  | lst ys => obtain ⟨p, vs, e, h1, r⟩ := asLst_ok (xs := xs) rh (show asLst S (.lst ys) = some xs from h) q; exact ⟨p, vs, e, .inl h1, r⟩
  | ref a => obtain ⟨p, vs, e, h1, r⟩ := asLst_ok (xs := xs) rh (show asLst S (.ref a) = some xs from h) q; exact ⟨p, vs, e, .inl h1, r⟩
  | _ => cases h
end
/-! ### + - * // % ** -/
/-- list + list for any two lists that are read -/
def rCatK (K : PySem.W.Frag) : R2 := fun x y H Q => ∃ a b xs ys, x = .ref a ∧ y = .ref b ∧ SqL K H a xs ∧ SqL K H b ys ∧ xs.length + ys.length ≤ sizeLine ∧ ∀ p, H p = none → Q (.ref p) (upd H p (.lst (xs ++ ys)))
theorem op_catK {X : Cx} : OpR X (binaryOp .Add) (rCatK X.K) := by
  intro pins s σ H x y v u Q I rx ry h
  obtain ⟨a, b, xs, ys, rfl, rfl, ha, hb, hz, q⟩ := h
  cases rx
  cases ry
  obtain ⟨its, r1, p1, z1⟩ := I.list ha
  obtain ⟨its2, r2, p2, z2⟩ := I.list hb
  have l1 := r1.length
  have l2 := r2.length
  obtain ⟨⟨c1, dd1, dt1, sl1⟩, n1, e1, hc1, hd1, hdt1⟩ := p1
  obtain ⟨⟨c2, dd2, dt2, sl2⟩, n2, e2, hc2, hd2, hdt2⟩ := p2
  simp only at hc1 hd1 hdt1 hc2 hd2 hdt2
  subst hc1 hd1 hdt1 hc2 hd2 hdt2
  refine concat_meets ⟨_, e1, rfl⟩ ⟨_, e2, rfl⟩ noFill_list_add seq_list_add PySem.F.slot_list_add PySem.F.entry_list_add (PySem.F.args_list_add_2 _ _)
    (list_addW a b its.toArray its2.toArray n1 n2 none none sl1 sl2 (by simp only [List.size_toArray]; omega)) ⟨e1, e2, ?_⟩
  have ea : its.toArray ++ its2.toArray = (its ++ its2).toArray := by simp
  rw [ea]
  exact ⟨.ref _, _, I.lnew (t' := s.toks) (r1.append r2) (by rw [List.length_append]; exact hz), rfl, q _ I.fresh⟩
/-- ints, texts, tuples, lists -/
def rAddV (K : PySem.W.Frag) : R2 := fun x y H Q => (rI0 (fun i j => .int (i + j)) x y H Q) ∨ (∃ i j, x = .str i ∧ y = .str j ∧ i.length + j.length ≤ sizeLine ∧ Q (.str (i ++ j)) H) ∨ rCatA K x y H Q ∨ rCatK K x y H Q
theorem op_addV {X : Cx} : OpR X (binaryOp .Add) (rAddV X.K) := op_add.or (op_add_str.or (op_catA.or op_catK))
theorem op2_lst {K : PySem.W.Frag} {G : Addr → Prop} {S : HD} {H : Hp} {d1 d2 : D} {v1 v2 : V} {Qd : QD} {Q : VK} {xs ys : List D} (rh : RH K G S H) (q1 : RD K G S H d1 v1) (q2 : RD K G S H d2 v2) (p : Post K G S H Qd Q)
    (h1 : asLst S d1 = some xs) (h2 : asLst S d2 = some ys) (t : xs.length + ys.length ≤ sizeLine ∧ Qd (.lst (xs ++ ys)) S) : rAddV K v1 v2 H Q := by
  obtain ⟨a, vs, rfl, l1, r1⟩ := asLst_ok rh h1 q1
  obtain ⟨b, ws, rfl, l2, r2⟩ := asLst_ok rh h2 q2
  exact .inr (.inr (.inr ⟨a, b, vs, ws, rfl, rfl, l1, l2, by rw [← r1.length, ← r2.length]; exact t.1, fun q hq => p.newL rh (r1.append r2) t.2 hq⟩))
def rAddD : R2D := fun x y S Q => match x, y with
  | .int i, .int j => Q (.int (i + j)) S
  | .str a, .str b => a.length + b.length ≤ sizeLine ∧ Q (.str (a ++ b)) S
  | .tup a, .tup b => a.length + b.length ≤ sizeLine ∧ Q (.tup (a ++ b)) S
  | x, y => match asLst S x, asLst S y with
    | some xs, some ys => xs.length + ys.length ≤ sizeLine ∧ Q (.lst (xs ++ ys)) S
    | _, _ => False
theorem add2 {K : PySem.W.Frag} : Op2 K (rAddV K) rAddD := by
  intro G S H d1 d2 v1 v2 Qd Q rh q1 q2 t p
  unfold rAddD at t
  split at t
  · cases q1; cases q2; exact .inl ⟨_, _, rfl, rfl, p.here rh (.int _) t⟩
  · cases q1; cases q2; exact .inr (.inl ⟨_, _, rfl, rfl, t.1, p.here rh (.str _) t.2⟩)
  · rename_i a b
    cases q1 with
    | @tup a1 vs _ h1 r1 =>
      cases q2 with
      | @tup a2 ws _ h2 r2 =>
        refine .inr (.inr (.inl ⟨a1, a2, vs, ws, rfl, rfl, h1.sq, h2.sq, by rw [← r1.length, ← r2.length]; exact t.1, fun e => ?_, fun e1 e2 => ?_, fun e1 e2 q hq => p.newT rh (r1.append r2) t.2 hq⟩))
        · subst e
          cases r1
          exact p.here rh (.tup h2 r2) t.2
        · subst e2
          cases r2
          exact p.here rh (.tup h1 r1) (by simpa using t.2)
  · split at t
    · rename_i xs ys e1 e2
      exact op2_lst rh q1 q2 p e1 e2 t
    · exact t.elim
section
variable {X : Cx} {a b : Expr} {ta tb : TED} {pos : Pos}
theorem de_add (ha : DE X a ta) (hb : DE X b tb) : DE X (.BinOp a .Add b pos) (tBin rAddD ta tb) := de_op op_addV add2 ha hb
def rSubD : R2D := fun x y S Q => match x, y with
  | .int i, .int j => Q (.int (i - j)) S
  | _, _ => False
theorem de_sub (ha : DE X a ta) (hb : DE X b tb) : DE X (.BinOp a .Sub b pos) (tBin rSubD ta tb) := de_op op_sub (fun G S H d1 d2 v1 v2 Qd Q rh q1 q2 t p => by
  unfold rSubD at t
  split at t
  · cases q1; cases q2; exact ⟨_, _, rfl, rfl, p.here rh (.int _) t⟩
  · exact t.elim) ha hb
/-- // by a positive number below 2^30, or any great ones that fit -/
def rFdivD : R2D := fun x y S Q => match x, y with
  | .int i, .int j => (0 < j ∧ j < 1073741824) ∧ Q (.int (i / j)) S
  | _, _ => False
theorem de_fdiv (ha : DE X a ta) (hb : DE X b tb) : DE X (.BinOp a .FloorDiv b pos) (tBin rFdivD ta tb) := de_op op_fdiv (fun G S H d1 d2 v1 v2 Qd Q rh q1 q2 t p => by
  unfold rFdivD at t
  split at t
  · cases q1; cases q2; exact ⟨_, _, rfl, rfl, t.1, p.here rh (.int _) t.2⟩
  · exact t.elim) ha hb
def rModD : R2D := fun x y S Q => match x, y with
  | .int i, .int j => 0 < j ∧ Q (.int (i % j)) S
  | _, _ => False
theorem de_mod (ha : DE X a ta) (hb : DE X b tb) : DE X (.BinOp a .Mod b pos) (tBin rModD ta tb) := de_op op_mod (fun G S H d1 d2 v1 v2 Qd Q rh q1 q2 t p => by
  unfold rModD at t
  split at t
  · cases q1; cases q2; exact ⟨_, _, rfl, rfl, t.1, p.here rh (.int _) t.2⟩
  · exact t.elim) ha hb
def rPowD : R2D := fun x y S Q => match x, y with
  | .int i, .int j => (0 ≤ j ∧ j ≤ 1000000 ∧ i.natAbs < 2 ^ 64) ∧ Q (.int (i ^ j.toNat)) S
  | _, _ => False
theorem de_pow (ha : DE X a ta) (hb : DE X b tb) : DE X (.BinOp a .Pow b pos) (tBin rPowD ta tb) := de_op op_pow (fun G S H d1 d2 v1 v2 Qd Q rh q1 q2 t p => by
  unfold rPowD at t
  split at t
  · cases q1; cases q2; exact ⟨_, _, rfl, rfl, t.1, p.here rh (.int _) t.2⟩
  · exact t.elim) ha hb
/-! ### list * int, tuple * int, text * int -/
def rRepK (K : PySem.W.Frag) : R2 := fun x y H Q => ∃ l k xs, x = .ref l ∧ y = .int k ∧ SqL K H l xs ∧ 0 ≤ k ∧ k < 2 ^ 60 ∧ xs.length * k.toNat ≤ sizeLine ∧ ∀ p, H p = none → Q (.ref p) (upd H p (.lst (List.replicate k.toNat xs).flatten))
theorem op_repK : OpR X (binaryOp .Mult) (rRepK X.K) := by
  intro pins s σ H x y v u Q I rx ry h
  obtain ⟨l, k, xs, rfl, rfl, hl, h1, h2, hz, q⟩ := h
  cases rx
  obtain ⟨t, rfl⟩ := ry
  obtain ⟨its, r, pl, z⟩ := I.list hl
  have hn := r.length
  obtain ⟨⟨c1, dd1, dt1, sl1⟩, n1, e1, hc1, hd1, hdt1⟩ := pl
  simp only at hc1 hd1 hdt1
  subst hc1 hd1 hdt1
  have hz' : its.toArray.size * k.toNat ≤ 2 ^ 24 := by rw [List.size_toArray, ← hn]; exact hz
  refine wpAny_binaryOp_repeat_ref (T := "list") (U := "int") (by decide) ⟨_, e1, rfl⟩ (fun s' => typeIs_int s' k t) noFill_list_mul F.fills_int_mul F.slot_int_rmul repeat_list F.slot_int_index.lookup
    (call_meets F.slot_int_rmul (typeIs_int s k t) F.entry_int_rmul (F.args_int_rmul_2 _ _) (lm_int_rmul_list_any k t l its.toArray n1 none sl1)
      ⟨e1, rfl, ⟨_, e1, rfl⟩, call_meets F.slot_list_mul ⟨_, e1, rfl⟩ F.entry_list_mul (F.args_list_mul_2 _ _)
        (lm_list_mul_any l its.toArray n1 none sl1 k t (by simp [Builtin.List.listFitsIndex]; omega) (by omega) (by simp [Builtin.List.listTooLong, sizeLine]; omega)) ⟨e1, ?_⟩⟩)
  rw [listMul_foldl_if]
  exact ⟨.ref _, _, I.lnew (t' := s.toks) (r.rep k.toNat) (by rw [List.length_flatten]; simpa [Nat.mul_comm] using hz), rfl, q _ I.fresh⟩
end
end PD
end
section
/-! PD5b: tuple * int of any count, text * int; the union of *. -/
namespace PD
open PySem PySem.Spec PyProof.Rows L2
theorem tuple_mul_same (l : Addr) (items : Array Value) (n : Nat) (dd : Option Addr) (sl : Array (Option Value)) (x : Int) (u : Tok) (c0 : (decide (x < -(2 ^ 63)) || decide (x ≥ 2 ^ 63)) = false) (c1 : (items.isEmpty || x == 1) = true) :
    Meets (Builtin.«tuple.__mul__» ⟨[.ref l, .int x u], []⟩) (fun _ R s => s.heap.get? l = some { cls := .type "tuple", dict := dd, data := .seq items n, slots := sl } ∧ R (.ok (.ret (Value.ref l))) s) :=
  .of_wp fun prog w A R s h => by
    obtain ⟨hp, g, d, tk, os⟩ := s
    obtain ⟨hl, h⟩ := h
    have f1 := AutoSeq1.idx_int
    wp_walk using wpAny_loadPart' hl
    repeat (first
      | (refine wpAny_ite_false (decide_eq_false (by rw [c0]; exact Bool.false_ne_true)) ?_; wp_walk using wpAny_loadPart' hl)
      | (refine wpAny_ite_true (decide_eq_true c1) ?_; wp_walk using wpAny_loadPart' hl))
    all_goals first | exact ⟨_, rfl, h⟩ | skip
theorem tuple_mul_zero (l : Addr) (items : Array Value) (n : Nat) (dd : Option Addr) (sl : Array (Option Value)) (x : Int) (u : Tok) (c0 : (decide (x < -(2 ^ 63)) || decide (x ≥ 2 ^ 63)) = false) (c1 : (items.isEmpty || x == 1) = false) (c2 : (decide (x ≤ 0) || items.isEmpty) = true) :
    Meets (Builtin.«tuple.__mul__» ⟨[.ref l, .int x u], []⟩) (fun _ R s => s.heap.get? l = some { cls := .type "tuple", dict := dd, data := .seq items n, slots := sl } ∧
      R (.ok (.ret (Value.ref s.heap.objs.size))) { s with heap := s.heap.push { cls := Value.type "tuple", data := Data.seq #[] }, toks := s.toks }) :=
  .of_wp fun prog w A R s h => by
    obtain ⟨hp, g, d, tk, os⟩ := s
    obtain ⟨hl, h⟩ := h
    have f1 := AutoSeq1.idx_int
    wp_walk using wpAny_loadPart' hl
    repeat (first
      | (refine wpAny_ite_false (decide_eq_false (by rw [c0]; exact Bool.false_ne_true)) ?_; wp_walk using wpAny_loadPart' hl)
      | (refine wpAny_ite_false (decide_eq_false (by rw [c1]; exact Bool.false_ne_true)) ?_; wp_walk using wpAny_loadPart' hl)
      | (refine wpAny_ite_true (decide_eq_true c2) ?_; wp_walk using wpAny_loadPart' hl))
    all_goals first | exact ⟨_, rfl, h⟩ | skip
/-- tuple * int, any count to 1000 -/
def rRepA (K : PySem.W.Frag) : R2 := fun x y H Q => ∃ l k xs, x = .ref l ∧ y = .int k ∧ SqT K H l xs ∧ -1000 ≤ k ∧ k ≤ 1000 ∧ xs.length ≤ 1000 ∧
  ((xs = [] ∨ k = 1) → Q (.ref l) H) ∧ (¬ (xs = [] ∨ k = 1) → ∀ p, H p = none → Q (.ref p) (upd H p (.tup (List.replicate k.toNat xs).flatten)))
theorem op_repA {X : Cx} : OpR X (binaryOp .Mult) (rRepA X.K) := by
  intro pins s σ H x y v u Q I rx ry h
  obtain ⟨l, k, xs, rfl, rfl, hT, h1, h2, hz, qs, qn⟩ := h
  by_cases hw : xs = [] ∨ k = 1
  · cases rx
    obtain ⟨t, rfl⟩ := ry
    obtain ⟨its, r, ⟨⟨cls, dd, data, sl⟩, ho, hc, n, hd⟩, hs⟩ := I.tuple hT
    simp only at hc hd
    subst hc hd
    have c0 : (decide (k < -(2 ^ 63)) || decide (k ≥ 2 ^ 63)) = false := by
      rw [decide_eq_false (by omega), decide_eq_false (by omega)] <;> rfl
    have c1 : (its.toArray.isEmpty || k == 1) = true := by
      rcases hw with e | e
      · subst e; cases r; rfl
      · subst e; simp
    exact wpAny_binaryOp_repeat_ref (T := "tuple") (U := "int") (by decide) ⟨_, ho, rfl⟩ (fun s' => typeIs_int s' k t) noFill_tuple_mul F.fills_int_mul F.slot_int_rmul repeat_tuple F.slot_int_index.lookup
      (call_meets F.slot_int_rmul (typeIs_int s k t) F.entry_int_rmul (F.args_int_rmul_2 _ _) (int_rmul_tuple k t l its.toArray n dd sl)
        ⟨ho, rfl, ⟨_, ho, rfl⟩, call_meets F.slot_tuple_mul ⟨_, ho, rfl⟩ F.entry_tuple_mul (F.args_tuple_mul_2 _ _) (tuple_mul_same l its.toArray n dd sl k t c0 c1) ⟨ho, .ref l, H, I, rfl, qs hw⟩⟩)
  · by_cases h0 : k ≤ 0
    · cases rx
      obtain ⟨t, rfl⟩ := ry
      obtain ⟨its, r, ⟨⟨cls, dd, data, sl⟩, ho, hc, n, hd⟩, hs⟩ := I.tuple hT
      simp only at hc hd
      subst hc hd
      have c0 : (decide (k < -(2 ^ 63)) || decide (k ≥ 2 ^ 63)) = false := by
        rw [decide_eq_false (by omega), decide_eq_false (by omega)] <;> rfl
      have c1 : (its.toArray.isEmpty || k == 1) = false := by
        have e2 : (k == 1) = false := beq_eq_false_iff_ne.mpr (by omega)
        rw [e2]
        cases r with
        | nil => exact absurd (.inl rfl) hw
        | cons _ _ => rfl
      have c2 : (decide (k ≤ 0) || its.toArray.isEmpty) = true := by rw [decide_eq_true h0]; rfl
      have hq := qn hw _ (I.hok.fresh (Nat.le_refl _))
      have e0 : k.toNat = 0 := by omega
      rw [e0] at hq
      refine wpAny_binaryOp_repeat_ref (T := "tuple") (U := "int") (by decide) ⟨_, ho, rfl⟩ (fun s' => typeIs_int s' k t) noFill_tuple_mul F.fills_int_mul F.slot_int_rmul repeat_tuple F.slot_int_index.lookup
        (call_meets F.slot_int_rmul (typeIs_int s k t) F.entry_int_rmul (F.args_int_rmul_2 _ _) (int_rmul_tuple k t l its.toArray n dd sl)
          ⟨ho, rfl, ⟨_, ho, rfl⟩, call_meets F.slot_tuple_mul ⟨_, ho, rfl⟩ F.entry_tuple_mul (F.args_tuple_mul_2 _ _) (tuple_mul_zero l its.toArray n dd sl k t c0 c1 c2) ⟨ho, ?_⟩⟩)
      exact ⟨.ref s.heap.objs.size, _, I.laid (t' := s.toks) (o := .tup []) (fun b ob q => Heap.get?_push_of_some _ q) (Nat.le_refl _) ⟨Nat.zero_le _, [], .nil, IsTup.new _ _⟩, rfl, hq⟩
    · exact op_repT pins s σ H _ _ v u Q I rx ry ⟨l, k, xs, rfl, rfl, hT, fun e => hw (.inl e), by omega, h2, hz, qn hw⟩
/-- text * int -/
def strRep (x : Str) (n : Nat) : Str := ⟨(List.replicate n x.cps).foldl (· ++ ·) #[]⟩
theorem strRep_len (x : Str) (n : Nat) : (strRep x n).length = x.length * n := by
  have key : ∀ (m : Nat) (acc : Array Nat), ((List.replicate m x.cps).foldl (· ++ ·) acc).size = acc.size + x.cps.size * m := by
    intro m
    induction m with
    | zero => intro acc; simp
    | succ m ih =>
      intro acc
      rw [List.replicate_succ, List.foldl_cons, ih, Array.size_append, Nat.mul_succ]
      omega
  have := key n #[]
  simp only [List.size_toArray, List.length_nil, Nat.zero_add] at this
  exact this
theorem op_repS {X : Cx} : OpR X (binaryOp .Mult) (fun x y H Q => ∃ z k, x = .str z ∧ y = .int k ∧ 0 ≤ k ∧ k ≤ 1000000 ∧ z.length * k.toNat ≤ sizeLine ∧ Q (.str (strRep z k.toNat)) H) := by
  intro pins s σ H x y v u Q I rx ry h
  obtain ⟨z, k, rfl, rfl, h1, h2, hz, q⟩ := h
  obtain ⟨t, rfl⟩ := rx
  obtain ⟨t', rfl⟩ := ry
  have hsl : sizeLine = 16777216 := rfl
  refine PySem.P.mul_str (by rw [decide_eq_false (by omega), decide_eq_false (by omega)]; rfl) (fun a b => ?_) (fun a b => ?_) ?_
  · have hb := Bool.or_eq_false_iff.mp b
    have hk : 2 ≤ k := by have := beq_eq_false_iff_ne.mp hb.1; omega
    have e1 : (z.length : Int) * k ≤ 16777216 := by
      have : ((z.length * k.toNat : Nat) : Int) ≤ 16777216 := by omega
      have e2 : ((k.toNat : Nat) : Int) = k := Int.toNat_of_nonneg h1
      rw [Int.natCast_mul, e2] at this
      exact this
    have e3 : (z.length : Int) ≤ 16777216 := by
      have : (z.length : Int) * 1 ≤ (z.length : Int) * k := Int.mul_le_mul_of_nonneg_left (by omega) (by omega)
      omega
    have e4 : (16777216 : Int) ≤ (2 ^ 63 - 1) / k := by
      refine Int.le_ediv_of_mul_le (by omega) ?_
      have : (16777216 : Int) * k ≤ 16777216 * 1000000 := Int.mul_le_mul_of_nonneg_left h2 (by decide)
      omega
    omega
  · unfold Builtin.Str.tooLong
    exact decide_eq_false (by omega)
  · by_cases c1 : k < 1
    · rw [if_pos c1]
      have e0 : k.toNat = 0 := by omega
      rw [e0] at q
      exact ⟨by decide, .str Str.empty, H, I.tok _, ⟨_, rfl⟩, q⟩
    · rw [if_neg c1]
      by_cases c2 : (k == 1 || z.length == 0) = true
      · rw [if_pos c2]
        have ez : strRep z k.toNat = z := by
          rcases Bool.or_eq_true_iff.mp c2 with e | e
          · have : k = 1 := beq_iff_eq.mp e
            subst this
            show (⟨#[] ++ z.cps⟩ : Str) = z
            simp
          · have hz0 : z.cps = #[] := by
              have : z.cps.size = 0 := beq_iff_eq.mp e
              exact Array.eq_empty_of_size_eq_zero this
            have : ∀ n, (List.replicate n z.cps).foldl (· ++ ·) #[] = (#[] : Array _) := by
              intro n
              induction n with
              | zero => rfl
              | succ n ih => rw [List.replicate_succ, List.foldl_cons, hz0] at *; simpa using ih
            unfold strRep
            rw [this]
            cases z
            simp at hz0
            subst hz0
            rfl
        rw [ez] at q
        exact ⟨.str z, H, I, ⟨t, rfl⟩, q⟩
      · rw [if_neg c2]
        exact ⟨by have := strRep_len z k.toNat; unfold strRep at this; rw [this]; exact hz, .str _, H, I.tok _, ⟨_, rfl⟩, q⟩
def rMulV (K : PySem.W.Frag) : R2 := fun x y H Q => (rI CMul (fun i j => .int (i * j)) x y H Q) ∨ rRepK K x y H Q ∨ rRepA K x y H Q ∨ (∃ z k, x = .str z ∧ y = .int k ∧ 0 ≤ k ∧ k ≤ 1000000 ∧ z.length * k.toNat ≤ sizeLine ∧ Q (.str (strRep z k.toNat)) H)
theorem op_mulV {X : Cx} : OpR X (binaryOp .Mult) (rMulV X.K) := op_mul.or (op_repK.or (op_repA.or op_repS))
def rMulD : R2D := fun x y S Q => match x, y with
  | .int i, .int j => CMul i j ∧ Q (.int (i * j)) S
  | .str z, .int k => (0 ≤ k ∧ k ≤ 1000000 ∧ z.length * k.toNat ≤ sizeLine) ∧ Q (.str (strRep z k.toNat)) S
  | .tup xs, .int k => (-1000 ≤ k ∧ k ≤ 1000 ∧ xs.length ≤ 1000) ∧ Q (.tup (List.replicate k.toNat xs).flatten) S
  | x, .int k => (match asLst S x with
    | some xs => (0 ≤ k ∧ k < 2 ^ 60 ∧ xs.length * k.toNat ≤ sizeLine) ∧ Q (.lst (List.replicate k.toNat xs).flatten) S
    | none => False)
  | _, _ => False
theorem RDs.flat {K : PySem.W.Frag} {G : Addr → Prop} {S : HD} {H : Hp} {ds : List D} {vs : List V} (r : RDs K G S H ds vs) : ∀ n : Nat, RDs K G S H (List.replicate n ds).flatten (List.replicate n vs).flatten
  | 0 => .nil
  | n + 1 => by rw [List.replicate_succ, List.replicate_succ, List.flatten_cons, List.flatten_cons]; exact r.append (RDs.flat r n)
theorem mul2 {K : PySem.W.Frag} : Op2 K (rMulV K) rMulD := by
  intro G S H d1 d2 v1 v2 Qd Q rh q1 q2 t p
  unfold rMulD at t
  split at t
  · cases q1; cases q2; exact .inl ⟨_, _, rfl, rfl, t.1, p.here rh (.int _) t.2⟩
  · cases q1; cases q2; exact .inr (.inr (.inr ⟨_, _, rfl, rfl, t.1.1, t.1.2.1, t.1.2.2, p.here rh (.str _) t.2⟩))
  · rename_i xs k
    cases q2
    cases q1 with
    | @tup a1 vs _ h1 r1 =>
      refine .inr (.inr (.inl ⟨a1, k, vs, rfl, rfl, h1.sq, t.1.1, t.1.2.1, by rw [← r1.length]; exact t.1.2.2, fun e => ?_, fun e q hq => p.newT rh (r1.flat _) t.2 hq⟩))
      refine p.here rh (.tup h1 r1) ?_
      have e2 : (List.replicate k.toNat xs).flatten = xs := by
        rcases e with e | e
        · subst e
          cases r1
          simp
        · subst e; simp
      rw [e2] at t
      exact t.2
  · cases q2
    split at t
    · rename_i xs e
      obtain ⟨a, vs, rfl, l1, r1⟩ := asLst_ok rh e q1
      exact .inr (.inl ⟨a, _, vs, rfl, rfl, l1, t.1.1, t.1.2.1, by rw [← r1.length]; exact t.1.2.2, fun q hq => p.newL rh (r1.flat _) t.2 hq⟩)
    · exact t.elim
  · exact t.elim
theorem de_mul {X : Cx} {a b : Expr} {ta tb : TED} {pos : Pos} (ha : DE X a ta) (hb : DE X b tb) : DE X (.BinOp a .Mult b pos) (tBin rMulD ta tb) := de_op op_mulV mul2 ha hb
end PD
end
section
/-! PD6: deep values as the library's data: repr, ==, !=. -/
namespace PD
open PySem PySem.Spec PyProof.Rows L2
mutual
def py : D → PyData
  | .non => .none
  | .bl b => .bool b
  | .int i => .int i
  | .str x => .str x
  | .tup xs => .tuple (pyL xs)
  | .lst xs => .list (pyL xs)
  | .dic kvs => .dict (pyK kvs)
  | .ref _ => .none
  | .ty _ => .none
  | .deck => .none
def pyL : List D → List PyData
  | [] => []
  | x :: xs => py x :: pyL xs
def pyK : List (D × D) → List (PyData × PyData)
  | [] => []
  | (k, v) :: r => (py k, py v) :: pyK r
end
mutual
/-- may be shown -/
def okR : D → Bool
  | .non => true
  | .bl _ => true
  | .int i => decide (i.natAbs.log2 < 1920)
  | .str x => PyData.strOk x
  | .tup xs => okRL xs
  | .lst xs => okRL xs
  | .dic kvs => okRK kvs
  | .ref _ => false
  | .ty _ => false
  | .deck => false
def okRL : List D → Bool
  | [] => true
  | x :: xs => okR x && okRL xs
def okRK : List (D × D) → Bool
  | [] => true
  | (k, v) :: r => okR k && okR v && okRK r
end
mutual
/-- may be compared -/
def okE : D → Bool
  | .non => true
  | .bl _ => true
  | .int _ => true
  | .str x => PyData.strOk x
  | .tup xs => okEL xs
  | .lst xs => okEL xs
  | .dic _ => false
  | .ref _ => false
  | .ty _ => false
  | .deck => false
def okEL : List D → Bool
  | [] => true
  | x :: xs => okE x && okEL xs
end
mutual
def dep : D → Nat
  | .tup xs => depL xs + 1
  | .lst xs => depL xs + 1
  | .dic kvs => depK kvs + 1
  | .non => 0
  | .bl _ => 0
  | .int _ => 0
  | .str _ => 0
  | .ref _ => 0
  | .ty _ => 0
  | .deck => 0
def depL : List D → Nat
  | [] => 0
  | x :: xs => max (dep x) (depL xs)
def depK : List (D × D) → Nat
  | [] => 0
  | (k, v) :: r => max (max (dep k) (dep v)) (depK r)
end
mutual
/-- no more signs than this -/
def sz : D → Nat
  | .non => 4
  | .bl _ => 5
  | .int i => i.natAbs.log2 + 3
  | .str x => 10 * x.length + 2
  | .tup xs => szL xs + 3
  | .lst xs => szL xs + 3
  | .dic kvs => szK kvs + 3
  | .ref _ => 0
  | .ty _ => 0
  | .deck => 0
def szL : List D → Nat
  | [] => 0
  | x :: xs => sz x + 2 + szL xs
def szK : List (D × D) → Nat
  | [] => 0
  | (k, v) :: r => sz k + sz v + 4 + szK r
end
theorem pyL_map : ∀ xs : List D, pyL xs = xs.map py
  | [] => rfl
  | x :: xs => by simp [pyL, pyL_map xs]
mutual
theorem dep_py : ∀ d : D, (py d).depth = dep d
  | .non => rfl
  | .bl _ => rfl
  | .int _ => rfl
  | .str _ => rfl
  | .ref _ => rfl
  | .ty _ => rfl
  | .deck => rfl
  | .tup xs => by simp only [py, PyData.depth, dep, depL_py xs]
  | .lst xs => by simp only [py, PyData.depth, dep, depL_py xs]
  | .dic kvs => by simp only [py, PyData.depth, dep, depK_py kvs]
theorem depL_py : ∀ xs : List D, PyData.depthAll (pyL xs) = depL xs
  | [] => rfl
  | x :: xs => by simp only [pyL, PyData.depthAll, depL, dep_py x, depL_py xs]
theorem depK_py : ∀ xs : List (D × D), PyData.depthKv (pyK xs) = depK xs
  | [] => rfl
  | (k, v) :: xs => by simp only [pyK, PyData.depthKv, depK, dep_py k, dep_py v, depK_py xs]
end
mutual
theorem show_py : ∀ d : D, okR d = true → (py d).showable = true
  | .non, _ => rfl
  | .bl _, _ => rfl
  | .int _, h => h
  | .str _, _ => rfl
  | .tup xs, h => by simp only [py, PyData.showable]; exact showL_py xs h
  | .lst xs, h => by simp only [py, PyData.showable]; exact showL_py xs h
  | .dic kvs, h => by simp only [py, PyData.showable]; exact showK_py kvs h
theorem showL_py : ∀ xs : List D, okRL xs = true → PyData.showableAll (pyL xs) = true
  | [], _ => rfl
  | x :: xs, h => by
    simp only [okRL, Bool.and_eq_true] at h
    simp only [pyL, PyData.showableAll, show_py x h.1, showL_py xs h.2, Bool.and_self]
theorem showK_py : ∀ xs : List (D × D), okRK xs = true → PyData.showableKv (pyK xs) = true
  | [], _ => rfl
  | (k, v) :: xs, h => by
    simp only [okRK, Bool.and_eq_true] at h
    simp only [pyK, PyData.showableKv, show_py k h.1.1, show_py v h.1.2, showK_py xs h.2, Bool.and_self]
end
theorem log2_pow (n : Nat) : n < 10 ^ (n.log2 + 1) := by
  have h1 : n < 2 ^ (n.log2 + 1) := Nat.lt_log2_self
  have h2 : 2 ^ (n.log2 + 1) ≤ 10 ^ (n.log2 + 1) := Nat.pow_le_pow_left (by decide) _
  omega
theorem len_int (i : Int) : (Str.ofString (toString i)).length ≤ i.natAbs.log2 + 2 := by
  cases i with
  | ofNat n =>
    have h := toString_length_le (v := Int.ofNat n) (Int.natCast_nonneg n) (k := n.log2 + 1) (by omega) (by
      have := log2_pow n
      show ((n : Nat) : Int) < 10 ^ (n.log2 + 1)
      exact_mod_cast this)
    show _ ≤ n.log2 + 2
    omega
  | negSucc n =>
    have h := toString_length_le (v := ((n + 1 : Nat) : Int)) (Int.natCast_nonneg _) (k := (n + 1).log2 + 1) (by omega) (by
      have := log2_pow (n + 1)
      exact_mod_cast this)
    have e2 := len_text_neg (n := Int.negSucc n) (by omega)
    have e3 : (0 : Int) - Int.negSucc n = ((n + 1 : Nat) : Int) := by omega
    rw [e3] at e2
    show _ ≤ (n + 1).log2 + 2
    omega
theorem textFrom_le : ∀ (ts : List Str) (k : Nat) (acc : Str), (textFrom k acc ts).length ≤ acc.length + piled ts := by
  intro ts
  induction ts with
  | nil => intro k acc; simp [textFrom, piled]
  | cons t ts ih =>
    intro k acc
    rw [piled_cons]
    unfold textFrom
    refine Nat.le_trans (ih _ _) ?_
    have e2 : (", " : Str).length = 2 := by decide
    have e0 : ("" : Str).length = 0 := by decide
    split <;> (simp only [Str.length_append]; omega)
mutual
theorem shown_le : ∀ d : D, okR d = true → (py d).shown.length ≤ sz d
  | .non, _ => by simp only [py, PyData.shown, sz]; decide
  | .bl b, _ => by cases b <;> (simp only [py, PyData.shown, sz]; decide)
  | .int i, _ => by simp only [py, PyData.shown, sz]; have := len_int i; omega
  | .str x, h => by
    simp only [py, PyData.shown, sz]
    refine StrLaws.reprText_len x fun c hc => ?_
    have h' : x.cps.all (· < 0x110000) = true := h
    rw [Array.all_eq_true] at h'
    obtain ⟨i, hi, e⟩ := List.mem_iff_getElem.mp hc
    have := h' i (by simpa using hi)
    simp at this
    have e' : x.cps[i]'(by simpa using hi) = c := by simpa using e
    rw [e'] at this
    have : (16 : Nat) ^ 8 = 4294967296 := by decide
    omega
  | .tup xs, h => by
    simp only [py, PyData.shown, sz]
    have hp := piled_le xs h
    unfold tupleText
    simp only [Str.length_append]
    have e1 : ("(" : Str).length = 1 := by decide
    have e2 : (",)" : Str).length = 2 := by decide
    have e3 : (")" : Str).length = 1 := by decide
    by_cases hn : PyData.shownAll (pyL xs) = []
    · rw [hn]
      have : (Str.join ", " []).length = 0 := by decide
      rw [this]
      split <;> omega
    · have := join_length_add _ hn
      split <;> omega
  | .lst xs, h => by
    simp only [py, PyData.shown, sz]
    have hp := piled_le xs h
    unfold listText
    simp only [Str.length_append]
    have h1 := textFrom_le (PyData.shownAll (pyL xs)) 0 "["
    have e1 : ("[" : Str).length = 1 := by decide
    have e2 : ("]" : Str).length = 1 := by decide
    omega
  | .dic kvs, h => by
    simp only [py, PyData.shown, sz]
    have hp := piledK_le kvs h
    unfold dictText
    simp only [Str.length_append]
    have e1 : ("{" : Str).length = 1 := by decide
    have e2 : ("}" : Str).length = 1 := by decide
    by_cases hn : PyData.shownKv (pyK kvs) = []
    · rw [hn]
      have : (Str.join ", " []).length = 0 := by decide
      omega
    · have := join_length_add _ hn
      omega
theorem piled_le : ∀ xs : List D, okRL xs = true → piled (PyData.shownAll (pyL xs)) ≤ szL xs
  | [], _ => by simp [pyL, PyData.shownAll, piled, szL]
  | x :: xs, h => by
    simp only [okRL, Bool.and_eq_true] at h
    have h1 := shown_le x h.1
    have h2 := piled_le xs h.2
    simp only [pyL, PyData.shownAll, piled_cons, szL]
    omega
theorem piledK_le : ∀ xs : List (D × D), okRK xs = true → piled (PyData.shownKv (pyK xs)) ≤ szK xs
  | [], _ => by simp [pyK, PyData.shownKv, piled, szK]
  | (k, v) :: xs, h => by
    simp only [okRK, Bool.and_eq_true] at h
    have h1 := shown_le k h.1.1
    have h2 := shown_le v h.1.2
    have h3 := piledK_le xs h.2
    simp only [pyK, PyData.shownKv, piled_cons, szK, Str.length_append]
    have : (": " : Str).length = 2 := by decide
    omega
end
end PD
end
section
/-! PD7: repr, ==, != over deep values. -/
namespace PD
open PySem PySem.Spec PyProof.Rows L2
/-- the module's table of modules stands in the base -/
def SysB (base : Heap) : Prop := ∃ mm, base.Ns sysModules mm
section
variable {X : Cx} {pins : List (Addr × Obj)} {σ : L2.St} {H : Hp} {s : Shared} {G : Addr → Prop} {S : HD}
theorem not_sys (I : Inv X pins σ H s) (hB : SysB X.base) {a : Addr} {its : Array Value} {n : Nat} {o : Obj} (h : s.heap.get? a = some o) (hd : o.data = .seq its n) : a ≠ sysModules := fun e => by
  obtain ⟨mm, ob, es, ep, h1, h2, _⟩ := hB
  have h3 := I.bk _ _ h1
  rw [← e, h] at h3
  cases h3
  rw [hd] at h2; cases h2
mutual
theorem rd_reads (I : Inv X pins σ H s) (hB : SysB X.base) : ∀ (d : D) (v : V) (u : Value), RD X.K G S H d v → RelV v u → okR d = true ∨ okE d = true → ∃ as, Reads s.heap u (py d) as ∧ sysModules ∉ as
  | .non, _, _, q, r, _ => by cases q; cases r; exact ⟨_, .none, by simp⟩
  | .bl b, _, _, q, r, _ => by cases q; cases r; exact ⟨_, .bool b, by simp⟩
  | .int i, _, _, q, r, _ => by
    cases q
    obtain ⟨t, rfl⟩ := r
    exact ⟨_, .int i t, by simp⟩
  | .str x, _, _, q, r, _ => by
    cases q
    obtain ⟨t, rfl⟩ := r
    exact ⟨_, .str x t, by simp⟩
  | .tup xs, _, _, q, r, ok => by
    cases q with
    | tup h rs =>
      cases r
      obtain ⟨its, rv, ⟨o, e1, e2, n, e3⟩, _⟩ := I.tuple h.sq
      obtain ⟨as, q1, q2⟩ := rds_reads I hB xs _ its rs rv (ok.imp (fun z => z) fun z => z)
      exact ⟨_, .tuple e1 e2 e3 (by simpa using q1), q2⟩
  | .lst xs, _, _, q, r, ok => by
    cases q with
    | lst h rs =>
      cases r
      obtain ⟨its, rv, ⟨o, n, e1, e2, _, e3⟩, _⟩ := I.list h.sq
      obtain ⟨as, q1, q2⟩ := rds_reads I hB xs _ its rs rv (ok.imp (fun z => z) fun z => z)
      exact ⟨_, .list e1 e2 e3 (by simpa using q1), fun hm => (List.mem_cons.mp hm).elim (fun z => not_sys I hB e1 e3 z.symm) q2⟩
  | .dic kvs, _, _, q, r, ok => by
    cases q with
    | @dic a kvv _ h rs =>
      cases r
      obtain ⟨_, hs, vs, kv, o, es, ep, e1, e2, e3, _, pr, _⟩ := dk_rd I.hok h.2
      obtain ⟨as, bs, q1, q2, q3, q4⟩ := rdk_reads I hB kvs kvv vs es.toList rs kv pr (by
        rcases ok with z | z
        · exact z
        · cases z)
      refine ⟨_, .dict e1 e2.1 e3 q1 q2, fun hm => ?_⟩
      rcases List.mem_append.mp hm with hm | hm
      · rcases List.mem_cons.mp hm with hm | hm
        · rw [← hm] at hs; simp at hs
        · exact q3 hm
      · exact q4 hm
  | .ref _, _, _, _, _, ok => by rcases ok with z | z <;> cases z
  | .ty _, _, _, _, _, ok => by rcases ok with z | z <;> cases z
  | .deck, _, _, _, _, ok => by rcases ok with z | z <;> cases z
theorem rds_reads (I : Inv X pins σ H s) (hB : SysB X.base) : ∀ (ds : List D) (vs : List V) (us : List Value), RDs X.K G S H ds vs → Vals vs us → okRL ds = true ∨ okEL ds = true → ∃ as, ReadsAll s.heap us (pyL ds) as ∧ sysModules ∉ as
  | [], _, _, q, r, _ => by cases q; cases r; exact ⟨_, .nil, by simp⟩
  | d :: ds, _, _, q, r, ok => by
    cases q with
    | cons q1 q2 =>
      cases r with
      | cons r1 r2 =>
        have ok1 : okR d = true ∨ okE d = true := ok.imp (fun z => by simp only [okRL, Bool.and_eq_true] at z; exact z.1) fun z => by simp only [okEL, Bool.and_eq_true] at z; exact z.1
        have ok2 : okRL ds = true ∨ okEL ds = true := ok.imp (fun z => by simp only [okRL, Bool.and_eq_true] at z; exact z.2) fun z => by simp only [okEL, Bool.and_eq_true] at z; exact z.2
        obtain ⟨as, a1, a2⟩ := rd_reads I hB d _ _ q1 r1 ok1
        obtain ⟨bs, b1, b2⟩ := rds_reads I hB ds _ _ q2 r2 ok2
        exact ⟨_, .cons a1 b1, fun hm => (List.mem_append.mp hm).elim a2 b2⟩
theorem rdk_reads (I : Inv X pins σ H s) (hB : SysB X.base) : ∀ (ds : List (D × D)) (kvv : List (Key × V)) (vs : List (Key × Value)) (es : List DictEntry), RDk X.K G S H ds kvv → KV kvv vs → Pairs (mixKind X.prog X.w) es vs → okRK ds = true →
    ∃ as bs, ReadsAll s.heap (es.map (·.key)) ((pyK ds).map (·.1)) as ∧ ReadsAll s.heap (es.map (·.val)) ((pyK ds).map (·.2)) bs ∧ sysModules ∉ as ∧ sysModules ∉ bs
  | [], _, _, _, q, kv, pr, _ => by
    cases q; cases kv; cases pr
    exact ⟨_, _, .nil, .nil, by simp, by simp⟩
  | (k, d) :: ds, _, _, _, q, kv, pr, ok => by
    cases q with
    | @cons k' _ v _ kvs q1 q2 =>
      cases kv with
      | cons kv1 kv2 =>
        cases pr with
        | cons p1 p2 p3 =>
          simp only [okRK, Bool.and_eq_true] at ok
          obtain ⟨as, bs, a1, a2, a3, a4⟩ := rdk_reads I hB ds _ _ _ q2 kv2 p3 ok.2
          obtain ⟨ek, rv⟩ := kv1
          obtain ⟨cs, c1, c2⟩ := rd_reads I hB d _ _ q1 rv (.inl ok.1.2)
          rename_i pq _ en _
          have kr : ∃ ks, Reads s.heap en.key (py (kD k')) ks ∧ sysModules ∉ ks := by
            rw [← ek] at p1
            have p1' : keyIs k' _ = true := p1
            rcases keyIs_shape p1' with ⟨i, t, e1, e2⟩ | ⟨x, t, e1, e2⟩
            · subst e1; rw [e2]; exact ⟨_, .int i t, by simp⟩
            · subst e1; rw [e2]; exact ⟨_, .str x t, by simp⟩
          obtain ⟨ks, k1, k2⟩ := kr
          refine ⟨_, _, .cons k1 a1, .cons (show Reads s.heap en.val (py d) cs by rw [p2]; exact c1) a2, fun hm => (List.mem_append.mp hm).elim k2 a3, fun hm => (List.mem_append.mp hm).elim c2 a4⟩
end
end
/-- a tracked list at the outside is read -/
def nrm (S : HD) : D → D
  | .ref a => match S.hp a with
    | some (.lst xs) => .lst xs
    | _ => .ref a
  | d => d
section
variable {K : PySem.W.Frag} {G : Addr → Prop} {S : HD} {H : Hp}
/-- what nrm says is so, but for the place's being frozen: over a state where it is not tracked any more -/
theorem nrm_ok (rh : RH K G S H) {d : D} {v : V} (q : RD K G S H d v) : ∃ S', FL S H S' H ∧ RD K G S' H (nrm S d) v := by
  cases q with
  | ref a =>
    simp only [nrm]
    split
    · rename_i xs e
      obtain ⟨h1, h2, vs, h3, h4⟩ := rh.hp a _ e
      have le : HLe (S.del a) S := ⟨fun b u z => by
        unfold HD.del at z
        by_cases hb : b = a
        · simp [hb] at z
        · simpa [hb] using z, Nat.le_refl _, rfl⟩
      exact ⟨S.del a, le.fl, .lst (.inl ⟨⟨by simp [HD.del], fun z => h1 (le.dkE.mp z), h2⟩, .inl h3⟩) (h4.mv le.mv)⟩
    · exact ⟨S, .refl _ _, .ref a⟩
  | non => exact ⟨S, .refl _ _, .non⟩
  | bl b => exact ⟨S, .refl _ _, .bl b⟩
  | int b => exact ⟨S, .refl _ _, .int b⟩
  | str b => exact ⟨S, .refl _ _, .str b⟩
  | ty b => exact ⟨S, .refl _ _, .ty b⟩
  | tup h r => exact ⟨S, .refl _ _, .tup h r⟩
  | lst h r => exact ⟨S, .refl _ _, .lst h r⟩
  | dic h r => exact ⟨S, .refl _ _, .dic h r⟩
  | deck h => exact ⟨S, .refl _ _, .deck h⟩
end
/-- the text of a value -/
def shw (d : D) : Str := (py d).shown
/-- repr(x) -/
def rReprD : SpD := fun ds S Q => match ds with
  | [d] => (okR (nrm S d) = true ∧ dep (nrm S d) ≤ 60 ∧ sz (nrm S d) ≤ 16000000) ∧ Q (.str (shw (nrm S d))) S
  | _ => False
section
variable {X : Cx} {e : Expr} {es : List Expr} {ta : TAD} {p pos : Pos}
/-- a built-in call by values and deep values, at once -/
def CallRD (X : Cx) (f : Value) (rd : SpD) : Prop :=
  ∀ (pins : List (Addr × Obj)) (s : Shared) (σ : L2.St) (H : Hp) (vs : List V) (us : List Value) (ds : List D) (G : Addr → Prop) (S : HD) (Qd : QD) (Q : VK), Inv X pins σ H s → Vals vs us → RDs X.K G S H ds vs → RH X.K G S H → rd ds S Qd → Post X.K G S H Qd Q →
    wpAny (model X.prog X.w) X.A (call f us) (EP X pins σ Q) X.xe s
theorem CallRD.or {f : Value} {r r' : SpD} (h : CallRD X f r) (h' : CallRD X f r') : CallRD X f (fun ds S Q => r ds S Q ∨ r' ds S Q) := fun pins s σ H vs us ds G S Qd Q I rv rd rh t p =>
  t.elim (fun t => h pins s σ H vs us ds G S Qd Q I rv rd rh t p) fun t => h' pins s σ H vs us ds G S Qd Q I rv rd rh t p
theorem CallRD.imp {f : Value} {r r' : SpD} (h : CallRD X f r) (i : ∀ ds S Q, r' ds S Q → r ds S Q) : CallRD X f r' := fun pins s σ H vs us ds G S Qd Q I rv rd rh t p => h pins s σ H vs us ds G S Qd Q I rv rd rh (i _ _ _ t) p
theorem CallRD.of {f : Value} {r : List V → Hp → VK → Prop} {rd : SpD} (h : CallR X f r) (i : ∀ G S H ds vs Qd Q, RH X.K G S H → RDs X.K G S H ds vs → rd ds S Qd → Post X.K G S H Qd Q → r vs H Q) : CallRD X f rd :=
  fun pins s σ H vs us ds G S Qd Q I rv rd' rh t p => h pins s σ H vs us Q I rv (i G S H ds vs Qd Q rh rd' t p)
theorem call_reprD (k : Nat) (hr : RoomG k X.A) (hB : SysB X.base) : CallRD X (.builtin "repr") rReprD := by
  intro pins s σ H vs us ds G S Qd Q I rv rd rh t p
  unfold rReprD at t
  split at t
  · rename_i d
    obtain ⟨⟨o1, o2, o3⟩, t⟩ := t
    cases rd with
    | cons q1 r1 =>
      cases r1
      obtain ⟨u, rfl, ru⟩ := vals1 rv
      obtain ⟨S', f', q2⟩ := nrm_ok rh q1
      obtain ⟨as, rr, ns⟩ := rd_reads I hB _ _ _ q2 ru (.inl o1)
      have hs := show_py _ o1
      have hz : (py (nrm S d)).shown.length ≤ sizeLine := Nat.le_trans (shown_le _ o1) (Nat.le_trans o3 (by decide))
      have hu : X.A.units + ((py (nrm S d)).depth + 1) < cLine := by have := hr.un64; rw [dep_py]; omega
      have fin : ∀ (h' : Heap) (u' : Tok) (tk : Nat), (∀ b o, s.heap.get? b = some o → h'.get? b = some o) → EP X pins σ Q (.str (py (nrm S d)).shown u') { s with heap := h', toks := tk } := fun h' u' tk hk =>
        ⟨.str _, H, I.kept hk, ⟨u', rfl⟩, p.here rh (.str _) t⟩
      have big : ∀ a, u = .ref a → wpAny (model X.prog X.w) X.A (call (.builtin "repr") [u]) (EP X pins σ Q) X.xe s := fun a e => by
        subst e
        exact repr_of_reads' rr hs (fun _ => ns) hr.gd hu (fun _ _ e => e) fin hz
      generalize nrm S d = nd at *
      cases q2 with
      | non => cases ru; exact PySem.P.repr_of_none (fin s.heap _ _ fun _ _ e => e)
      | bl b => cases ru; exact PySem.P.repr_of_bool (fin s.heap _ _ fun _ _ e => e)
      | int i => obtain ⟨tt, rfl⟩ := ru; exact PySem.P.repr_of_int (of_decide_eq_true o1) (fin s.heap _ _ fun _ _ e => e)
      | str x => obtain ⟨tt, rfl⟩ := ru; exact PySem.P.repr_of_str (fin s.heap _ _ fun _ _ e => e) hz
      | tup h r => cases ru; exact big _ rfl
      | lst h r => cases ru; exact big _ rfl
      | dic h r => cases ru; exact big _ rfl
      | ref a => cases o1
      | ty a => cases o1
      | deck h => cases o1
  · exact t.elim
end
end PD
end
section
/-! PD8: comparisons, built-in calls, items, slices, what is walked. -/
namespace PD
open PySem PySem.Spec PyProof.Rows L2
/-- two operands by values and deep values at once -/
def OpRD (X : Cx) (f : Value → Value → Sem Value) (rd : R2D) : Prop :=
  ∀ (pins : List (Addr × Obj)) (s : Shared) (σ : L2.St) (H : Hp) (x y : V) (v u : Value) (d e : D) (G : Addr → Prop) (S : HD) (Qd : QD) (Q : VK), Inv X pins σ H s → RelV x v → RelV y u → RD X.K G S H d x → RD X.K G S H e y → RH X.K G S H →
    rd d e S Qd → Post X.K G S H Qd Q → wpAny (model X.prog X.w) X.A (f v u) (EP X pins σ Q) X.xe s
def liftR (K : PySem.W.Frag) (rd : R2D) : R2 := fun x y H Q => ∃ G S d e Qd, RH K G S H ∧ RD K G S H d x ∧ RD K G S H e y ∧ rd d e S Qd ∧ Post K G S H Qd Q
theorem OpRD.toR {X : Cx} {f : Value → Value → Sem Value} {rd : R2D} (h : OpRD X f rd) : OpR X f (liftR X.K rd) :=
  fun pins s σ H x y v u Q I rx ry ⟨G, S, d, e, Qd, rh, q1, q2, t, p⟩ => h pins s σ H x y v u d e G S Qd Q I rx ry q1 q2 rh t p
theorem lift2 {K : PySem.W.Frag} {rd : R2D} : Op2 K (liftR K rd) rd := fun G S H d1 d2 v1 v2 Qd Q rh q1 q2 t p => ⟨G, S, d1, d2, Qd, rh, q1, q2, t, p⟩
theorem OpRD.of {X : Cx} {f : Value → Value → Sem Value} {r : R2} {rd : R2D} (h : OpR X f r) (i : Op2 X.K r rd) : OpRD X f rd :=
  fun pins s σ H x y v u d e G S Qd Q I rx ry q1 q2 rh t p => h pins s σ H x y v u Q I rx ry (i G S H d e x y Qd Q rh q1 q2 t p)
def liftC (K : PySem.W.Frag) (rd : SpD) : List V → Hp → VK → Prop := fun vs H Q => ∃ G S ds Qd, RH K G S H ∧ RDs K G S H ds vs ∧ rd ds S Qd ∧ Post K G S H Qd Q
theorem CallRD.toR {X : Cx} {f : Value} {rd : SpD} (h : CallRD X f rd) : CallR X f (liftC X.K rd) :=
  fun pins s σ H vs us Q I rv ⟨G, S, ds, Qd, rh, q, t, p⟩ => h pins s σ H vs us ds G S Qd Q I rv q rh t p
section
variable {X : Cx} {e a b : Expr} {es : List Expr} {ta tb : TED} {tA : TAD} {x : Str} {p pos : Pos} {rd : SpD}
theorem up_callB {K : PySem.W.Frag} : ∀ σ H Q, up K (tCallD rd tA) σ H Q → tCB (liftC K rd) (upA K tA) σ H Q := fun σ H Q ⟨G, σd, S, Qd, rs, rh, t, p⟩ =>
  ⟨G, σd, S, _, rs, rh, t, fun S1 ds vs H1 f1 rh1 q1 t1 => ⟨G, S1, ds, Qd, rh1, q1, t1, p.fl f1⟩⟩
theorem de_callB {id : String} (hc : CallRD X (.builtin id) rd) (hm : X.mg x = none) (hv : bootBuiltins x = some (.builtin id)) (ha : DA X (e :: es) tA) (hg : Gl X x := by rfl) (hn : x ≠ "__name__" := by decide) (hdb : (x == ("__debug__" : Str)) = false := by decide)
    (he : starEach (e :: es) X.env = (false, eval e X.env) :: starEach es X.env := by rfl) (hpl : (backTo pos (starEach es X.env)).any (·.1) = false := by rfl) : DE X (.Call (.Name x p) (e :: es) [] pos) (tCallD rd tA) :=
  (pe_callB hc.toR hg hm hv ha hn hdb he hpl).imp up_callB
theorem de_callTy {T : String} (hc : CallRD X (.type T) rd) (hm : X.mg x = none) (hv : bootBuiltins x = some (.type T)) (ha : DA X (e :: es) tA) (hg : Gl X x := by rfl) (hn : x ≠ "__name__" := by decide) (hdb : (x == ("__debug__" : Str)) = false := by decide)
    (he : starEach (e :: es) X.env = (false, eval e X.env) :: starEach es X.env := by rfl) (hpl : (backTo pos (starEach es X.env)).any (·.1) = false := by rfl) : DE X (.Call (.Name x p) (e :: es) [] pos) (tCallD rd tA) :=
  (pe_callTy hc.toR hg hm hv ha hn hdb he hpl).imp up_callB
end
/-! ### == and != -/
/-- Python's == on data -/
def eqd (d e : D) : Bool := PyData.eqv (py d) (py e)
/-- the comparison is known -/
def eqk (d e : D) : Bool := (okE d && okE e && (decide (dep d ≤ 60) || decide (dep e ≤ 60))) || (match d, e with
  | .tup xs, .tup ys => xs.isEmpty || ys.isEmpty
  | .lst xs, .lst ys => xs.isEmpty || ys.isEmpty
  | .int _, .int _ => true
  | .str _, .str _ => true
  | .non, .str _ => true
  | .str _, .non => true
  | .int _, .str _ => true
  | .str _, .int _ => true
  | .bl _, .str _ => true
  | .str _, .bl _ => true
  | _, _ => false)
def rEqD : R2D := fun x y S Q => eqk (nrm S x) (nrm S y) = true ∧ Q (.bl (eqd (nrm S x) (nrm S y))) S
def rNeD : R2D := fun x y S Q => eqk (nrm S x) (nrm S y) = true ∧ Q (.bl (!eqd (nrm S x) (nrm S y))) S
theorem eqv_nilL (xs : List PyData) : PyData.eqvAll xs [] = xs.isEmpty := by cases xs <;> rfl
theorem eqv_nilR (xs : List PyData) : PyData.eqvAll [] xs = xs.isEmpty := by cases xs <;> rfl
theorem pyL_isEmpty (xs : List D) : (pyL xs).isEmpty = xs.isEmpty := by cases xs <;> rfl
section
variable {X : Cx} {pins : List (Addr × Obj)} {σ : L2.St} {H : Hp} {s : Shared} {G : Addr → Prop} {S : HD}
mutual
theorem lay_py : ∀ d : D, okE d = true → (py d).canLay0 = true
  | .non, _ => rfl
  | .bl _, _ => rfl
  | .int _, _ => rfl
  | .str _, h => h
  | .tup xs, h => layL_py xs h
  | .lst xs, h => layL_py xs h
  | .dic _, h => nomatch h
  | .ref _, h => nomatch h
  | .ty _, h => nomatch h
  | .deck, h => nomatch h
theorem layL_py : ∀ xs : List D, okEL xs = true → PyData.canLayAll0 (pyL xs) = true
  | [], _ => rfl
  | x :: xs, h => by
    simp only [okEL, Bool.and_eq_true] at h
    simp only [pyL, PyData.canLayAll0, lay_py x h.1, layL_py xs h.2, Bool.and_self]
end
/-- the two kinds of comparison in one -/
theorem cmp_at (I : Inv X pins σ H s) (hB : SysB X.base) (hu : X.A.units + 64 < cLine) {S1 S2 : HD} {d e : D} {x y : V} {v u : Value} (rx : RelV x v) (ry : RelV y u) (q1 : RD X.K G S1 H d x) (q2 : RD X.K G S2 H e y) (h : eqk d e = true) (Q : VK) :
    (Q (.bl (eqd d e)) H → wpAny (model X.prog X.w) X.A (compareOp .Eq v u) (EP X pins σ Q) X.xe s) ∧ (Q (.bl (!eqd d e)) H → wpAny (model X.prog X.w) X.A (compareOp .NotEq v u) (EP X pins σ Q) X.xe s) := by
  unfold eqk at h
  have hor := Bool.or_eq_true_iff.mp h
  clear h
  rcases hor with h | h
  · simp only [Bool.and_eq_true, Bool.or_eq_true, decide_eq_true_eq] at h
    obtain ⟨⟨h1, h2⟩, h3⟩ := h
    obtain ⟨as, r1, _⟩ := rd_reads I hB d x v q1 rx (.inr h1)
    obtain ⟨bs, r2, _⟩ := rd_reads I hB e y u q2 ry (.inr h2)
    have room : X.A.units + min (py d).depth (py e).depth < cLine := by rw [dep_py, dep_py]; omega
    exact ⟨fun q => SeqAt.compareEq_reads r1 r2 (lay_py d h1) (lay_py e h2) room ⟨.bl _, H, I, rfl, q⟩, fun q => SeqAt.compareNe_reads r1 r2 (lay_py d h1) (lay_py e h2) room ⟨.bl _, H, I, rfl, q⟩⟩
  · have sc : scal x y = true → decide (x = y) = eqd d e → (Q (.bl (eqd d e)) H → wpAny (model X.prog X.w) X.A (compareOp .Eq v u) (EP X pins σ Q) X.xe s) ∧ (Q (.bl (!eqd d e)) H → wpAny (model X.prog X.w) X.A (compareOp .NotEq v u) (EP X pins σ Q) X.xe s) :=
      fun hs hb => ⟨fun q => op_eq pins s σ H x y v u Q I rx ry ⟨hs, by rw [hb]; exact q⟩, fun q => op_ne pins s σ H x y v u Q I rx ry ⟨hs, by rw [hb]; exact q⟩⟩
    have hu0 : X.A.units < cLine := by omega
    split at h
    · rename_i xs ys
      cases q1 with
      | tup h1 r1 =>
        cases q2 with
        | tup h2 r2 =>
          cases rx; cases ry
          obtain ⟨its, rv1, p1, _⟩ := I.tuple h1.sq
          obtain ⟨its2, rv2, p2, _⟩ := I.tuple h2.sq
          have l1 : its.length = xs.length := rv1.length.symm.trans r1.length.symm
          have l2 : its2.length = ys.length := rv2.length.symm.trans r2.length.symm
          have hz : min its.toArray.size its2.toArray.size = 0 := by
            rcases Bool.or_eq_true_iff.mp h with z | z
            · rw [List.isEmpty_iff] at z; subst z; simp [List.length_eq_zero_iff.mp l1]
            · rw [List.isEmpty_iff] at z; subst z; simp [List.length_eq_zero_iff.mp l2]
          have e1 : eqd (.tup xs) (.tup ys) = ((List.range (min its.toArray.size its2.toArray.size)).all (fun _ => true) && its.toArray.size == its2.toArray.size) := by
            rw [hz]
            show PyData.eqvAll (pyL xs) (pyL ys) = _
            simp only [List.range_zero, List.all_nil, Bool.true_and, List.size_toArray, l1, l2]
            rcases Bool.or_eq_true_iff.mp h with z | z
            · rw [List.isEmpty_iff] at z; subst z
              show PyData.eqvAll [] (pyL ys) = _
              rw [eqv_nilR, pyL_isEmpty]; cases ys <;> rfl
            · rw [List.isEmpty_iff] at z; subst z
              show PyData.eqvAll (pyL xs) [] = _
              rw [eqv_nilL, pyL_isEmpty]; cases xs <;> rfl
          have none : ∀ j (h1 : j < its.toArray.size) (h2 : j < its2.toArray.size), SeqAt.EqAt X.A.in1 s its.toArray[j] its2.toArray[j] ((fun _ => true) j) := fun j h1 h2 => by omega
          refine ⟨fun q => SeqAt.RcAt.tuples p1 p2 hu0 none X.prog X.w _ _ ?_, fun q => SeqAt.RcNeAt.tuples p1 p2 hu0 none X.prog X.w _ _ ?_⟩
          · rw [← e1]; exact ⟨.bl _, H, I, rfl, q⟩
          · rw [← e1]; exact ⟨.bl _, H, I, rfl, q⟩
    · rename_i xs ys
      cases q1 with
      | lst h1 r1 =>
        cases q2 with
        | lst h2 r2 =>
          cases rx; cases ry
          obtain ⟨its, rv1, p1', _⟩ := I.list h1.sq
          obtain ⟨its2, rv2, p2', _⟩ := I.list h2.sq
          have p1 := p1'.isList
          have p2 := p2'.isList
          have l1 : its.length = xs.length := rv1.length.symm.trans r1.length.symm
          have l2 : its2.length = ys.length := rv2.length.symm.trans r2.length.symm
          by_cases hz : its.toArray.size = its2.toArray.size
          · have e1 : eqd (.lst xs) (.lst ys) = true := by
              show PyData.eqvAll (pyL xs) (pyL ys) = true
              simp only [List.size_toArray, l1, l2] at hz
              have : xs = [] ∧ ys = [] := by
                rcases Bool.or_eq_true_iff.mp h with z | z
                · rw [List.isEmpty_iff] at z; subst z; exact ⟨rfl, List.length_eq_zero_iff.mp hz.symm⟩
                · rw [List.isEmpty_iff] at z; subst z; exact ⟨List.length_eq_zero_iff.mp hz, rfl⟩
              rw [this.1, this.2]; rfl
            have z0 : its.toArray.size = 0 := by
              rcases Bool.or_eq_true_iff.mp h with z | z
              · rw [List.isEmpty_iff] at z; subst z; simp [List.length_eq_zero_iff.mp l1]
              · rw [List.isEmpty_iff] at z; subst z; rw [hz]; simp [List.length_eq_zero_iff.mp l2]
            have e2 : (List.range its.toArray.size).all (fun _ => true) = true := by rw [z0]; rfl
            have none : ∀ j (h1 : j < its.toArray.size) (h2 : j < its2.toArray.size), SeqAt.EqAt X.A.in1 s its.toArray[j] its2.toArray[j] ((fun _ => true) j) := fun j h1 h2 => by omega
            refine ⟨fun q => SeqAt.RcAt.lists p1 p2 hz hu0 none X.prog X.w _ _ ?_, fun q => SeqAt.RcNeAt.lists p1 p2 hz hu0 none X.prog X.w _ _ ?_⟩
            · rw [e2, ← e1]; exact ⟨.bl _, H, I, rfl, q⟩
            · rw [e2, ← e1]; exact ⟨.bl _, H, I, rfl, q⟩
          · have e1 : eqd (.lst xs) (.lst ys) = false := by
              show PyData.eqvAll (pyL xs) (pyL ys) = false
              refine SeqAt.eqvAll_other_length ?_
              simp only [List.size_toArray, l1, l2] at hz
              rw [pyL_map, pyL_map, List.length_map, List.length_map]
              exact hz
            have hz' : (its.toArray.size != its2.toArray.size) = true := by simpa using hz
            refine ⟨fun q => SeqAt.RcAt.lists_lengths p1 p2 hz' hu0 X.prog X.w _ _ ?_, fun q => SeqAt.RcNeAt.lists_lengths p1 p2 hz' hu0 X.prog X.w _ _ ?_⟩
            · rw [← e1]; exact ⟨.bl _, H, I, rfl, q⟩
            · rw [e1] at q; exact ⟨.bl _, H, I, rfl, q⟩
    · cases q1; cases q2; exact sc rfl (by simp [eqd, py, PyData.eqv]; rw [Bool.eq_iff_iff]; simp)
    · cases q1; cases q2; exact sc rfl (by simp [eqd, py, PyData.eqv]; rw [Bool.eq_iff_iff]; simp)
    · cases q1; cases q2; exact sc rfl (by simp [eqd, py, PyData.eqv])
    · cases q1; cases q2; exact sc rfl (by simp [eqd, py, PyData.eqv])
    · cases q1; cases q2; exact sc rfl (by simp [eqd, py, PyData.eqv])
    · cases q1; cases q2; exact sc rfl (by simp [eqd, py, PyData.eqv])
    · cases q1; cases q2; exact sc rfl (by simp [eqd, py, PyData.eqv])
    · cases q1; cases q2; exact sc rfl (by simp [eqd, py, PyData.eqv])
    · cases h
theorem op_eqRD {k : Nat} (hr : RoomG k X.A) (hB : SysB X.base) : OpRD X (compareOp .Eq) rEqD := fun pins s σ H x y v u d e G S Qd Q I rx ry q1 q2 rh t p => by
  obtain ⟨S1, _, r1⟩ := nrm_ok rh q1
  obtain ⟨S2, _, r2⟩ := nrm_ok rh q2
  exact (cmp_at I hB hr.un64 rx ry r1 r2 t.1 Q).1 (p.here rh (.bl _) t.2)
theorem op_neRD {k : Nat} (hr : RoomG k X.A) (hB : SysB X.base) : OpRD X (compareOp .NotEq) rNeD := fun pins s σ H x y v u d e G S Qd Q I rx ry q1 q2 rh t p => by
  obtain ⟨S1, _, r1⟩ := nrm_ok rh q1
  obtain ⟨S2, _, r2⟩ := nrm_ok rh q2
  exact (cmp_at I hB hr.un64 rx ry r1 r2 t.1 Q).2 (p.here rh (.bl _) t.2)
end
end PD
end
section
/-! PD9: more comparisons, built-in calls, items, slices, what is walked, methods of lists. -/
namespace PD
open PySem PySem.Spec PyProof.Rows L2
section
variable {X : Cx} {a b c e : Expr} {ta tb tc : TED} {pos : Pos}
/-- comparison of ints -/
def rCmpI (f : Int → Int → Bool) : R2D := fun x y S Q => match x, y with
  | .int i, .int j => Q (.bl (f i j)) S
  | _, _ => False
theorem cmpI {K : PySem.W.Frag} {f : Int → Int → Bool} : Op2 K (rI0 fun i j => .bl (f i j)) (rCmpI f) := fun G S H d1 d2 v1 v2 Qd Q rh q1 q2 t p => by
  unfold rCmpI at t
  split at t
  · cases q1; cases q2; exact ⟨_, _, rfl, rfl, p.here rh (.bl _) t⟩
  · exact t.elim
abbrev fLt : Int → Int → Bool := fun i j => decide (i < j)
abbrev fLe : Int → Int → Bool := fun i j => decide (i ≤ j)
abbrev fGt : Int → Int → Bool := fun i j => decide (j < i)
abbrev fGe : Int → Int → Bool := fun i j => decide (j ≤ i)
/-- is None -/
def isN : D → Bool
  | .non => true
  | _ => false
def rIsN : R1D := fun x S Q => Q (.bl (isN x)) S
def rNotN : R1D := fun x S Q => Q (.bl (!isN x)) S
theorem isN_v {K : PySem.W.Frag} {G : Addr → Prop} {S : HD} {H : Hp} {d : D} {v : V} (q : RD K G S H d v) : decide (v = .non) = isN d := by
  cases q <;> simp [isN]
/-- a op b op' c -/
def tChainD (rd rd' : R2D) (ta tb tc : TED) : TED := fun σ S Q => ta σ S fun x S1 => tb σ S1 fun y S2 => rd x y S2 fun z S3 => match z with
  | .bl true => tc σ S3 fun w S4 => rd' y w S4 Q
  | .bl false => Q (.bl false) S3
  | _ => False
/-! ### len, isinstance, and the like -/
def rLenD : SpD := fun ds S Q => match ds with
  | [.str x] => x.length ≤ sizeLine ∧ Q (.int x.length) S
  | [d] => match asSeq S d with
    | some xs => Q (.int xs.length) S
    | none => False
  | _ => False
theorem call_lenRD : CallRD X (.builtin "len") rLenD := .of (r := fun xs H Q => (∃ p ys, xs = [.ref p] ∧ (SqL X.K H p ys ∨ SqT X.K H p ys) ∧ Q (.int ys.length) H) ∨ ∃ z, xs = [.str z] ∧ z.length ≤ sizeLine ∧ Q (.int z.length) H) (call_len_seq.or call_len_str) fun G S H ds vs Qd Q rh rd t p => by
  unfold rLenD at t
  split at t
  · cases rd with
    | cons q1 r1 => cases r1; cases q1; exact .inr ⟨_, rfl, t.1, p.here rh (.int _) t.2⟩
  · split at t
    · rename_i xs e
      cases rd with
      | cons q1 r1 =>
        cases r1
        obtain ⟨a, ws, rfl, l, r⟩ := asSeq_ok rh e q1
        exact .inl ⟨a, ws, rfl, l, by rw [← r.length]; exact p.here rh (.int _) t⟩
    · exact t.elim
  · exact t.elim
inductive Ty where | tuple | list | int | bool | str | dict
def Ty.name : Ty → String
  | .tuple => "tuple" | .list => "list" | .int => "int" | .bool => "bool" | .str => "str" | .dict => "dict"
/-- of a built-in class? none: not told here -/
def isiB (S : HD) : Ty → D → Option Bool
  | t, .non => some false
  | t, .bl _ => some (match t with | .int => true | .bool => true | _ => false)
  | t, .int _ => some (match t with | .int => true | _ => false)
  | t, .str _ => some (match t with | .str => true | _ => false)
  | t, .tup _ => some (match t with | .tuple => true | _ => false)
  | t, .lst _ => some (match t with | .list => true | _ => false)
  | t, .dic _ => some (match t with | .dict => true | _ => false)
  | t, .ref a => match S.hp a with
    | some (.lst _) => some (match t with | .list => true | _ => false)
    | some (.dic _) => some (match t with | .dict => true | _ => false)
    | _ => none
  | _, .ty _ => none
  | _, .deck => none
def rIsiD (t : Ty) : SpD := fun ds S Q => match ds with
  | [d, .ty n] => n = t.name ∧ (match isiB S t d with
    | some b => Q (.bl b) S
    | none => False)
  | _ => False
/-- tuple(x) -/
def rTupleD : SpD := fun ds S Q => match ds with
  | [d] => match asSeq S d with
    | some xs => Q (.tup xs) S
    | none => False
  | _ => False
theorem call_tupleRD : CallRD X (.type "tuple") rTupleD := .of call_tuple_of fun G S H ds vs Qd Q rh rd t p => by
  unfold rTupleD at t
  split at t
  · split at t
    · rename_i d xs e
      cases rd with
      | cons q1 r1 =>
        cases r1
        cases q1 with
        | tup h1 r => cases e; exact ⟨_, _, rfl, .inr ⟨h1.sq, p.here rh (.tup h1 r) t⟩⟩
        | lst h1 r => cases e; exact ⟨_, _, rfl, .inl ⟨h1.sq, fun l hl => p.newT rh r t hl⟩⟩
        | ref a =>
          obtain ⟨q, ws, e2, l, r⟩ := asLst_ok (xs := xs) rh (show asLst S (.ref a) = some xs from e) (.ref a)
          cases e2
          exact ⟨_, _, rfl, .inl ⟨l, fun l hl => p.newT rh r t hl⟩⟩
        | _ => cases e
    · exact t.elim
  · exact t.elim
/-- list(x), frozen; list(x), tracked -/
def rListV : SpD := fun ds S Q => match ds with
  | [d] => match asSeq S d with
    | some xs => Q (.lst xs) S
    | none => False
  | _ => False
def rListR : SpD := fun ds S Q => match ds with
  | [d] => match asSeq S d with
    | some xs => ∀ p, S.hp p = none → Q (.ref p) (S.set p (.lst xs))
    | none => False
  | _ => False
theorem call_listV : CallRD X (.type "list") rListV := .of call_list_of fun G S H ds vs Qd Q rh rd t p => by
  unfold rListV at t
  split at t
  · split at t
    · rename_i d xs e
      cases rd with
      | cons q1 r1 =>
        cases r1
        obtain ⟨a, ws, rfl, l, r⟩ := asSeq_ok rh e q1
        exact ⟨a, ws, rfl, l, fun l hl => p.newL rh r t hl⟩
    · exact t.elim
  · exact t.elim
theorem call_listR : CallRD X (.type "list") rListR := .of call_list_of fun G S H ds vs Qd Q rh rd t p => by
  unfold rListR at t
  split at t
  · split at t
    · rename_i d xs e
      cases rd with
      | cons q1 r1 =>
        cases r1
        obtain ⟨a, ws, rfl, l, r⟩ := asSeq_ok rh e q1
        exact ⟨a, ws, rfl, l, fun l hl => p.newR rh r t hl⟩
    · exact t.elim
  · exact t.elim
def rIntD : SpD := fun ds S Q => match ds with
  | [.int i] => Q (.int i) S
  | [.bl b] => Q (.int (if b then 1 else 0)) S
  | _ => False
theorem call_intRD : CallRD X (.type "int") rIntD := .of call_int1 fun G S H ds vs Qd Q rh rd t p => by
  unfold rIntD at t
  split at t
  · cases rd with
    | cons q1 r1 => cases r1; cases q1; exact .inl ⟨_, rfl, p.here rh (.int _) t⟩
  · cases rd with
    | cons q1 r1 => cases r1; cases q1; exact .inr ⟨_, rfl, p.here rh (.int _) t⟩
  · exact t.elim
def rBoolD : SpD := fun ds S Q => match ds with
  | [.int i] => Q (.bl (i != 0)) S
  | [.bl b] => Q (.bl b) S
  | _ => False
theorem call_boolRD : CallRD X (.type "bool") rBoolD := .of call_bool1 fun G S H ds vs Qd Q rh rd t p => by
  unfold rBoolD at t
  split at t
  · cases rd with
    | cons q1 r1 => cases r1; cases q1; exact .inl ⟨_, rfl, p.here rh (.bl _) t⟩
  · cases rd with
    | cons q1 r1 => cases r1; cases q1; exact .inr ⟨_, rfl, p.here rh (.bl _) t⟩
  · exact t.elim
def rAbsD : SpD := fun ds S Q => match ds with
  | [.int i] => Q (.int (if i < 0 then -i else i)) S
  | _ => False
theorem call_absRD : CallRD X (.builtin "abs") rAbsD := .of call_abs fun G S H ds vs Qd Q rh rd t p => by
  unfold rAbsD at t
  split at t
  · cases rd with
    | cons q1 r1 => cases r1; cases q1; exact ⟨_, rfl, p.here rh (.int _) t⟩
  · exact t.elim
def rMax2 : SpD := fun ds S Q => match ds with
  | [.int i, .int j] => Q (.int (if j > i then j else i)) S
  | _ => False
def rMin2 : SpD := fun ds S Q => match ds with
  | [.int i, .int j] => Q (.int (if j < i then j else i)) S
  | _ => False
/-! ### items and slices -/
theorem atI_rds {K : PySem.W.Frag} {G : Addr → Prop} {S : HD} {H : Hp} {ds : List D} {vs : List V} {i : Int} {d : D} (r : RDs K G S H ds vs) (h : atI ds i = some d) : ∃ v, atI vs i = some v ∧ RD K G S H d v := by
  unfold atI at h ⊢
  rw [← r.length]
  cases e : ixN ds.length i with
  | none => rw [e] at h; cases h
  | some j => rw [e] at h; exact r.get h
def rIxD : R2D := fun x y S Q => match x, y with
  | .str z, .int i => z.length ≤ sizeLine ∧ (match atI z.cps.toList i with
    | some c => Q (.str ⟨#[c]⟩) S
    | none => False)
  | x, .int i => (match asSeq S x with
    | some xs => (match atI xs i with
      | some d => Q d S
      | none => False)
    | none => False)
  | _, _ => False
theorem ix2 {K : PySem.W.Frag} : Op2 K (rIx K) rIxD := fun G S H d1 d2 v1 v2 Qd Q rh q1 q2 t p => by
  unfold rIxD at t
  split at t
  · cases q1; cases q2
    obtain ⟨hz, t⟩ := t
    split at t
    · rename_i c e
      exact .inr (.inr ⟨_, _, c, rfl, rfl, hz, e, p.here rh (.str _) t⟩)
    · exact t.elim
  · cases q2
    split at t
    · rename_i xs e
      split at t
      · rename_i d e2
        obtain ⟨a, ws, rfl, l, r⟩ := asSeq_ok rh e q1
        obtain ⟨v, h1, h2⟩ := atI_rds r e2
        rcases l with l | l
        · exact .inl ⟨a, ws, _, v, rfl, rfl, l, h1, p.here rh h2 t⟩
        · exact .inr (.inl ⟨a, ws, _, v, rfl, rfl, l, h1, p.here rh h2 t⟩)
      · exact t.elim
    · exact t.elim
  · exact t.elim
theorem de_ix (ha : DE X a ta) (hb : DE X b tb) (hs : PlainIx b := by exact fun _ _ => rfl) : DE X (.Subscript a b pos) (tBin rIxD ta tb) := (pe_ix ix_seq ha hb hs).imp (up_bin ix2)
/-- the ends of a slice -/
abbrev TOD := SD → HD → (Option Int → HD → Prop) → Prop
def upO (K : PySem.W.Frag) (t : TOD) : TO := fun σ H Q => ∃ G σd S Qd, RSl K G S H σd σ ∧ RH K G S H ∧ t σd S Qd ∧ ∀ S' o H', FL S H S' H' → RH K G S' H' → Qd o S' → Q o H'
abbrev DO (X : Cx) (e : Option Expr) (t : TOD) : Prop := PO X e (upO X.K t)
theorem _root_.L2.PO.imp {X : Cx} {e : Option Expr} {t t' : TO} (h : PO X e t) (i : ∀ σ H Q, t' σ H Q → t σ H Q) : PO X e t' := ⟨fun pins s σ H Q I q => h.run pins s σ H Q I (i _ _ _ q)⟩
def oNone : TOD := fun _ S Q => Q none S
def oSome (t : TED) : TOD := fun σ S Q => t σ S fun d S1 => match d with
  | .int i => Q (some i) S1
  | _ => False
theorem do_none : DO X none oNone := po_none.imp fun σ H Q ⟨G, σd, S, Qd, rs, rh, t, p⟩ => p S _ H (.refl _ _) rh t
theorem do_some (h : DE X e ta) : DO X (some e) (oSome ta) := (po_some h).imp fun σ H Q ⟨G, σd, S, Qd, rs, rh, t, p⟩ => ⟨G, σd, S, _, rs, rh, t, fun S1 d v H1 f1 rh1 q1 t1 => by
  cases q1 with
  | int i => exact ⟨i, rfl, p S1 _ H1 f1 rh1 t1⟩
  | _ => exact t1.elim⟩
def cutD (xs : List D) (lo hi : Option Int) : List D := (xs.drop (HT.sIx xs.length 0 lo)).take (HT.sIx xs.length xs.length hi - HT.sIx xs.length 0 lo)
theorem RDs.cut {K : PySem.W.Frag} {G : Addr → Prop} {S : HD} {H : Hp} {ds : List D} {vs : List V} (r : RDs K G S H ds vs) (lo hi : Option Int) : RDs K G S H (cutD ds lo hi) (cutV vs lo hi) := by
  unfold cutD cutV
  rw [← r.length]
  exact (r.drop _).take _
def rSlD (x : D) (lo hi : Option Int) (S : HD) (Q : QD) : Prop := match x with
  | .str z => z.length ≤ sizeLine ∧ Q (.str (cutS z lo hi)) S
  | .tup xs => Q (.tup (cutD xs lo hi)) S
  | x => match asLst S x with
    | some xs => Q (.lst (cutD xs lo hi)) S
    | none => False
def tSlD (te : TED) (tl th : TOD) : TED := fun σ S Q => te σ S fun x S1 => tl σ S1 fun l S2 => th σ S2 fun u S3 => rSlD x l u S3 Q
theorem de_slice {lo hi : Option Expr} {tl th : TOD} {p2 : Pos} (he : DE X e ta) (hl : DO X lo tl) (hu : DO X hi th) : DE X (.Subscript e (.Slice lo hi none p2) pos) (tSlD ta tl th) :=
  (pe_slice (r := fun x lo hi H Q => rSlA X.K x lo hi H Q ∨ rSlL X.K x lo hi H Q ∨ rSlS x lo hi H Q) (sl_tupA.or (sl_list.or sl_str)) he hl hu).imp fun σ H Q ⟨G, σd, S, Qd, rs, rh, t, p⟩ =>
    ⟨G, σd, S, _, rs, rh, t, fun S1 d v H1 f1 rh1 q1 t1 => ⟨G, σd, S1, _, rs.fl f1, rh1, t1, fun S2 l H2 f2 rh2 t2 => ⟨G, σd, S2, _, rs.fl (f1.trans f2), rh2, t2, fun S3 u H3 f3 rh3 t3 => by
      have q3 := q1.fl (f2.trans f3)
      have p3 := p.fl (f1.trans (f2.trans f3))
      unfold rSlD at t3
      split at t3
      · cases q3; exact .inr (.inr ⟨_, rfl, t3.1, p3.here rh3 (.str _) t3.2⟩)
      · rename_i xs
        cases q3 with
        | @tup a vs _ h1 r1 =>
          refine .inl ⟨a, vs, rfl, h1.sq, fun hw => ?_, fun _ q hq => p3.newT rh3 (r1.cut l u) t3 hq⟩
          have e : cutD xs l u = xs := by
            unfold cutD
            rw [r1.length, hw.1, hw.2, ← r1.length]
            simp
          rw [e] at t3
          exact p3.here rh3 (.tup h1 r1) t3
      · split at t3
        · rename_i xs e1
          obtain ⟨a, ws, rfl, l1, r⟩ := asLst_ok rh3 e1 q3
          exact .inr (.inl ⟨a, ws, rfl, l1, fun q hq => p3.newL rh3 (r.cut l u) t3 hq⟩)
        · exact t3.elim⟩⟩⟩
/-! ### what is walked -/
theorem itOk_list {K : PySem.W.Frag} {G' : Addr → Prop} {S : HD} {H : Hp} {a : Addr} {xs : List D} {keep : HD → Prop} (h : ∀ S1 H1, FL S H S1 H1 → RH K G' S1 H1 → keep S1 → ∃ vs, SqL K H1 a vs ∧ RDs K G' S1 H1 xs vs) : ItOk K G' S H (Itl K a) xs keep where
  go := fun i d S1 H1 hx f r k => by
    obtain ⟨vs, h1, h2⟩ := h S1 H1 f r k
    obtain ⟨v, e1, e2⟩ := h2.get hx
    refine ⟨⟨vs, v, h1, e1⟩, fun x H2 y => ?_⟩
    obtain ⟨rfl, y⟩ := y
    have := y vs h1
    rw [e1] at this
    cases this
    exact ⟨.refl _ _, r, e2⟩
  stop := fun S1 H1 f r k => by
    obtain ⟨vs, h1, h2⟩ := h S1 H1 f r k
    exact ⟨vs, h1, by rw [h2.length]; exact Nat.le_refl _⟩
theorem itOk_tup {K : PySem.W.Frag} {G' : Addr → Prop} {S : HD} {H : Hp} {a : Addr} {xs : List D} {keep : HD → Prop} (h : ∀ S1 H1, FL S H S1 H1 → RH K G' S1 H1 → keep S1 → ∃ vs, SqT K H1 a vs ∧ RDs K G' S1 H1 xs vs) : ItOk K G' S H (Itt K a) xs keep where
  go := fun i d S1 H1 hx f r k => by
    obtain ⟨vs, h1, h2⟩ := h S1 H1 f r k
    obtain ⟨v, e1, e2⟩ := h2.get hx
    refine ⟨⟨vs, v, h1, e1⟩, fun x H2 y => ?_⟩
    obtain ⟨rfl, y⟩ := y
    have := y vs h1
    rw [e1] at this
    cases this
    exact ⟨.refl _ _, r, e2⟩
  stop := fun S1 H1 f r k => by
    obtain ⟨vs, h1, h2⟩ := h S1 H1 f r k
    exact ⟨vs, h1, by rw [h2.length]; exact Nat.le_refl _⟩
theorem itOk_rng {K : PySem.W.Frag} {G' : Addr → Prop} {S : HD} {H : Hp} {lo : Int} {n : Nat} {keep : HD → Prop} : ItOk K G' S H (Itr lo n) ((List.range n).map fun (i : Nat) => D.int (lo + i)) keep where
  go := fun i d S1 H1 hx f r k => by
    rw [List.getElem?_map] at hx
    cases e : (List.range n)[i]? with
    | none => rw [e] at hx; cases hx
    | some j =>
      rw [e] at hx
      obtain ⟨hi, e2⟩ := List.getElem?_eq_some_iff.mp e
      simp at hi e2
      subst e2
      cases hx
      refine ⟨hi, fun x H2 y => ?_⟩
      obtain ⟨rfl, rfl⟩ := y
      exact ⟨.refl _ _, r, .int _⟩
  stop := fun S1 H1 f r k => by
    show n ≤ _
    simp
/-- a list or a tuple, told by its value -/
def iAny (K : PySem.W.Frag) (tl : TE) : TI := fun σ H R => tl σ H fun x H1 => ∃ a, x = .ref a ∧ ((∃ xs, SqL K H1 a xs ∧ R (Itl K a) H1) ∨ ∃ xs, SqT K H1 a xs ∧ R (Itt K a) H1)
theorem pi_any {X : Cx} {tg l : Expr} {tl : TE} (hl : PE X l tl) : PI X tg l (iAny X.K tl) := by
  refine ⟨fun pins s σ H R I h => thn (hl.run pins s σ H _ I h) fun v s1 hv => ?_⟩
  obtain ⟨x, H1, I1, rx, a, rfl, q⟩ := hv
  cases rx
  have fp : ∀ b ∈ [s1.heap.objs.size], FpOk X pins H1 b := fun b hb => by
    obtain rfl : b = s1.heap.objs.size := by simpa using hb
    exact I1.fpOk (Nat.le_refl _) (I1.hok.fresh (Nat.le_refl _))
  rcases q with ⟨xs, hq, q⟩ | ⟨xs, hq, q⟩
  · obtain ⟨its, rv, pl, hz⟩ := I1.list hq
    exact wpAny_pyIter_list pl.isList ⟨s1.heap.objs.size, [s1.heap.objs.size], _, _, H1, rfl, I1.kept (t' := s1.toks) (fun b o e => Heap.get?_push_of_some _ e), turn_list a _, ⟨_, Heap.get?_push_size _ rfl, rfl, rfl⟩, fp, q⟩
  · obtain ⟨its, rv, pl, hz⟩ := I1.tuple hq
    exact wpAny_pyIter_tuple (show s1.heap.IsTuple a its.toArray from pl) ⟨s1.heap.objs.size, [s1.heap.objs.size], _, _, H1, rfl, I1.kept (t' := s1.toks) (fun b o e => Heap.get?_push_of_some _ e), turn_tuple a _, ⟨_, Heap.get?_push_size _ rfl, rfl, rfl⟩, fp, q⟩
def iSeqD (te : TED) : TID := fun σ S R => te σ S fun d S1 => match d with
  | .tup xs => xs.length ≤ sizeLine → R xs (fun _ => True) S1
  | .lst xs => xs.length ≤ sizeLine → R xs (fun _ => True) S1
  | .ref a => (match S1.hp a with
    | some (.lst xs) => xs.length ≤ sizeLine → R xs (fun S => S.hp a = some (.lst xs)) S1
    | _ => False)
  | _ => False
theorem FzT.mv {K : PySem.W.Frag} {G G' : Addr → Prop} {S S' : HD} {H H' : Hp} (m : Mv G S H G' S' H') {a : Addr} {vs : List V} (h : FzT K G S H a vs) : FzT K G' S' H' a vs := h.imp (fun z => m.rd z) id
theorem FzL.mv {K : PySem.W.Frag} {G G' : Addr → Prop} {S S' : HD} {H H' : Hp} (m : Mv G S H G' S' H') {a : Addr} {vs : List V} (h : FzL K G S H a vs) : FzL K G' S' H' a vs := h.imp (fun z => m.rd z) id
theorem di_seq {X : Cx} {tg l : Expr} {tl : TED} (hl : DE X l tl) : DI X tg l (iSeqD tl) :=
  (pi_any (PE.szs hl)).imp fun σ H R ⟨G, σd, S, Rd, rs, rh, t, p⟩ => ⟨G, σd, S, _, rs, rh, t, fun S1 d v H1 f1 rh1 q1 t1 hz => by
    cases q1 with
    | @tup a vs xs h1 r =>
      exact ⟨a, rfl, .inr ⟨vs, h1.sq, p S1 _ _ _ H1 f1 rh1 (fun G' S2 H2 m2 rh2 => itOk_tup fun S3 H3 f3 rh3 _ => ⟨vs, ((h1.mv m2).mv f3.mv).sq, (r.mv m2).fl f3⟩) (t1 (by rw [r.length]; exact hz.2 _ _ h1.sq))⟩⟩
    | @lst a vs xs h1 r =>
      exact ⟨a, rfl, .inl ⟨vs, h1.sq, p S1 _ _ _ H1 f1 rh1 (fun G' S2 H2 m2 rh2 => itOk_list fun S3 H3 f3 rh3 _ => ⟨vs, ((h1.mv m2).mv f3.mv).sq, (r.mv m2).fl f3⟩) (t1 (by rw [r.length]; exact hz.1 _ _ h1.sq))⟩⟩
    | ref a =>
      simp only at t1
      split at t1
      · rename_i xs e
        obtain ⟨_, _, vs, e1, r⟩ := rh1.hp a _ e
        refine ⟨a, rfl, .inl ⟨vs, SqL.of e1, p S1 _ _ _ H1 f1 rh1 (fun G' S2 H2 m2 rh2 => itOk_list fun S3 H3 f3 rh3 k3 => ?_) (t1 (by rw [r.length]; exact hz.1 _ _ (SqL.of e1)))⟩⟩
        obtain ⟨_, _, ws, e2, r2⟩ := rh3.hp a _ k3
        exact ⟨ws, SqL.of e2, r2⟩
      · exact t1.elim
    | _ => exact t1.elim⟩
/-- range(n), range(a, b) -/
def rngD (lo : Int) (n : Nat) : List D := (List.range n).map fun (i : Nat) => D.int (lo + i)
theorem rngD_len (lo : Int) (n : Nat) : (rngD lo n).length = n := by simp [rngD]
def iRng1D (ta : TAD) : TID := fun σ S R => ta σ S fun ds S1 => match ds with
  | [.int j] => (-1000000000 ≤ j ∧ j ≤ 10000000) ∧ R (rngD 0 j.toNat) (fun _ => True) S1
  | _ => False
def iRng2D (ta : TAD) : TID := fun σ S R => ta σ S fun ds S1 => match ds with
  | [.int i, .int j] => (-1000000000 ≤ i ∧ i ≤ 1000000000 ∧ -1000000000 ≤ j ∧ j ≤ 1000000000 ∧ j - i ≤ 10000000) ∧ R (rngD i (j - i).toNat) (fun _ => True) S1
  | _ => False
theorem di_range1 {X : Cx} {tg a : Expr} {ta : TAD} {p pos : Pos} (hm : X.mg "range" = none) (ha : DA X [a] ta) (hg : Gl X "range" := by rfl) (hs : starEach [a] X.env = [(false, eval a X.env)] := by rfl) : DI X tg (.Call (.Name "range" p) [a] [] pos) (iRng1D ta) :=
  (pi_range1 hg hm ha hs).imp fun σ H R ⟨G, σd, S, Rd, rs, rh, t, p⟩ => ⟨G, σd, S, _, rs, rh, t, fun S1 ds vs H1 f1 rh1 q1 t1 => by
    split at t1
    · cases q1 with
      | cons q r =>
        cases r; cases q
        exact ⟨_, rfl, by omega, by omega, p S1 _ _ _ H1 f1 rh1 (fun G' S2 H2 m2 rh2 => itOk_rng) t1.2⟩
    · exact t1.elim⟩
/-! ### methods of tracked lists, stores -/
theorem RH.writeL {K : PySem.W.Frag} {G : Addr → Prop} {S : HD} {H : Hp} (rh : RH K G S H) {a : Addr} {xs ys : List D} {ws : List V} (h : S.hp a = some (.lst xs)) (r : RDs K G S H ys ws) : RH K G (S.set a (.lst ys)) (upd H a (.lst ws)) ∧ FL S H (S.set a (.lst ys)) (upd H a (.lst ws)) := by
  have m : Mv G S H G (S.set a (.lst ys)) (upd H a (.lst ws)) := ⟨fun b o e z => by
    have ne : b ≠ a := fun q => by rw [← q, z.1] at h; cases h
    exact ⟨⟨by rw [HD.set_ne ne]; exact z.1, z.2.1, z.2.2⟩, by rw [upd_ne ne]; exact e⟩, fun _ e => e⟩
  exact rh.write h ⟨ws, upd_same, r.mv m⟩
def rAppD : D → List D → HD → QD → Prop := fun x ds S Q => match x, ds with
  | .ref a, [d] => (match S.hp a with
    | some (.lst xs) => xs.length < 16000000 ∧ Q .non (S.set a (.lst (xs ++ [d])))
    | _ => False)
  | _, _ => False
def isRefL (S : HD) : D → Prop
  | .ref a => ∃ xs, S.hp a = some (.lst xs)
  | _ => False
section
variable {X : Cx} {o e : Expr} {es : List Expr} {to : TED} {ta : TAD} {name : Str} {apos cpos : Pos}
/-- o.m(e, ..) of a tracked list; the receiver is told before the arguments are -/
def tMethL (rd : D → List D → HD → QD → Prop) (to : TED) (ta : TAD) : TED := fun σ S Q => to σ S fun x S1 => isRefL S1 x ∧ ta σ S1 fun ds S2 => rd x ds S2 Q
theorem de_methL {id : String} {r : V → List V → Hp → VK → Prop} {rd : D → List D → HD → QD → Prop} (slot : Slot "list" name id) (hty : typeOf (.builtin id) = pure (.type "method_descriptor")) (hm : MtR X id r)
    (i : ∀ G S H d v ds vs Qd Q, RH X.K G S H → RD X.K G S H d v → RDs X.K G S H ds vs → rd d ds S Qd → Post X.K G S H Qd Q → r v vs H Q) (ho : DE X o to) (ha : DA X (e :: es) ta)
    (hbase : attributeBase o name X.env (eval o X.env) = eval o X.env := by rfl)
    (hfew : ((backTo cpos (starEach (e :: es) X.env)).all (fun x => !x.1) && (backToKw cpos (keywordEach [] X.env)).all (fun x => x.1.isSome)
      && decide ((e :: es).length + ([] : List Keyword).length + (if ([] : List Keyword).isEmpty then 0 else 1) < 30)) = true := by rfl)
    (hline : (apos.endLine == cpos.line) = true := by rfl) (hs : starEach (e :: es) X.env = (false, eval e X.env) :: starEach es X.env := by rfl) (hplain : (backTo cpos (starEach es X.env)).any (·.1) = false := by rfl) :
    DE X (.Call (.Attribute o name apos) (e :: es) [] cpos) (tMethL rd to ta) :=
  (pe_bm PySem.F.plainAttrs_list slot hty hm ho ha hbase hfew hline hs hplain).imp fun σ H Q ⟨G, σd, S, Qd, rs, rh, t, p⟩ => ⟨G, σd, S, _, rs, rh, t, fun S1 d v H1 f1 rh1 q1 ⟨hl, t1⟩ => by
    cases q1 with
    | ref a =>
      obtain ⟨xs, e1⟩ := hl
      obtain ⟨_, _, ws, e2, _⟩ := rh1.hp a _ e1
      exact ⟨.inl ⟨rfl, _, SqL.of e2⟩, G, σd, S1, _, rs.fl f1, rh1, t1, fun S2 ds vs H2 f2 rh2 q2 t2 => i G S2 H2 _ _ ds vs _ _ rh2 (.ref a) q2 t2 (p.fl (f1.trans f2))⟩
    | _ => exact hl.elim⟩
theorem appD_ok {K : PySem.W.Frag} : ∀ G S H d v ds vs Qd Q, RH K G S H → RD K G S H d v → RDs K G S H ds vs → rAppD d ds S Qd → Post K G S H Qd Q → rAppend v vs H Q := by
  intro G S H d v ds vs Qd Q rh q1 q2 t p
  unfold rAppD at t
  split at t
  · rename_i a d
    split at t
    · rename_i xs e
      obtain ⟨_, _, ws, e1, r⟩ := rh.hp a _ e
      cases q1
      cases q2 with
      | @cons _ y _ _ q2 r2 =>
        cases r2
        obtain ⟨rh', f'⟩ := rh.writeL e (r.append (.cons q2 .nil))
        exact ⟨a, ws, y, rfl, rfl, e1, by have := r.length; have : (sizeLine : Nat) = 16777216 := rfl; omega, p _ _ _ _ f' rh' .non t.2⟩
    · exact t.elim
  · exact t.elim
theorem de_append (ho : DE X o to) (ha : DA X [e] ta) (hbase : attributeBase o "append" X.env (eval o X.env) = eval o X.env := by rfl)
    (hfew : ((backTo cpos (starEach (e :: []) X.env)).all (fun x => !x.1) && (backToKw cpos (keywordEach [] X.env)).all (fun x => x.1.isSome)
      && decide ((e :: ([] : List Expr)).length + ([] : List Keyword).length + (if ([] : List Keyword).isEmpty then 0 else 1) < 30)) = true := by rfl)
    (hline : (apos.endLine == cpos.line) = true := by rfl) (hs : starEach (e :: []) X.env = (false, eval e X.env) :: starEach [] X.env := by rfl) : DE X (.Call (.Attribute o "append" apos) [e] [] cpos) (tMethL rAppD to ta) :=
  de_methL PySem.F.slot_list_append PySem.F.type_list_append mt_append appD_ok ho ha hbase hfew hline hs rfl
end
end
end PD
end
section
/-! PD10: chains of comparisons, stores into lists, the deck of draws. -/
namespace PD
open PySem PySem.Spec PyProof.Rows L2
section
variable {X : Cx} {a b c e o i : Expr} {ta tb tc to ti : TED} {pos : Pos}
/-! ### xs[i] = e -/
def rSetD (o i v : D) (S : HD) (Q : HD → Prop) : Prop := match o, i with
  | .ref a, .int k => (match S.hp a with
    | some (.lst xs) => (match ixN xs.length k with
      | some j => Q (S.set a (.lst (xs.set j v)))
      | none => False)
    | _ => False)
  | _, _ => False
def gSubD (to ti : TED) : TGD := fun v σ S Q => to σ S fun o S1 => ti σ S1 fun i S2 => rSetD o i v S2 fun S3 => Q σ S3
theorem dg_sub (ho : DE X o to) (hi : DE X i ti)
    (ha : ∀ v, assign (.Subscript o i pos) X.env v = (do
      let ov ← holding [v] (eval o X.env)
      let iv ← holding [v, ov] (eval i X.env)
      standAt pos
      holding [v, ov, iv] (setItem ov iv v)
      release [v, ov, iv] []) := by intro _; rfl) : DG X (.Subscript o i pos) (gSubD to ti) :=
  (pg_sub ho hi set_list ha).imp fun v σ H Q ⟨G, σd, S, d, Qd, rs, rh, q, t, p⟩ =>
    ⟨G, σd, S, _, rs, rh, t, fun S1 d1 v1 H1 f1 rh1 q1 t1 => ⟨G, σd, S1, _, rs.fl f1, rh1, t1, fun S2 d2 v2 H2 f2 rh2 q2 t2 => by
      unfold rSetD at t2
      split at t2
      · split at t2
        · rename_i xs e
          split at t2
          · rename_i j ej
            cases q1
            cases q2
            obtain ⟨_, _, ws, e1, r⟩ := rh2.hp _ _ e
            obtain ⟨rh', f'⟩ := rh2.writeL e (r.set (q.fl (f1.trans f2)) j)
            exact ⟨_, ws, _, j, rfl, rfl, e1, by rw [← r.length]; exact ej, p _ _ _ _ (f1.trans (f2.trans f')) rh' (rs.fl (f1.trans (f2.trans f'))) t2⟩
          · exact t2.elim
        · exact t2.elim
      · exact t2.elim⟩⟩
end
/-! ### the deck of draws -/
section
variable {K : PySem.W.Frag} {G : Addr → Prop} {S : HD} {H : Hp}
theorem rds_ints : ∀ {ns : List Int} {vs : List V}, RDs K G S H (ns.map D.int) vs → vs = ns.map V.int
  | [], _, h => by cases h; rfl
  | n :: ns, _, h => by
    cases h with
    | cons q r => cases q; rw [rds_ints r]; rfl
/-- the deck alone, opened -/
def openD (S : HD) (a b : Addr) (cells : List Int) (n : Nat) : HD := { hp := fun x => if x = a then some (.lst [.ref b, .int (n : Int)]) else if x = b then some (.lst (cells.map D.int)) else none, c := S.c, dk := none }
theorem openD_rh (rh : RH K G S H) {a b : Addr} (h : S.dk = some (a, b)) {cells : List Int} {n : Nat} (h1 : H a = some (.lst [.ref b, .int (n : Int)])) (h2 : H b = some (.lst (cells.map V.int))) : RH K G (openD S a b cells n) H where
  hp := fun x o e => by
    have nd : ¬ Dk (openD S a b cells n) x := fun ⟨p, q, _⟩ => by cases q
    simp only [openD] at e
    split at e
    · rename_i hx
      subst hx
      cases e
      exact ⟨nd, fun g => (rh.rs x g).2 ⟨_, h, .inl rfl⟩, _, h1, .cons (.ref _) (.cons (.int _) .nil)⟩
    · split at e
      · rename_i _ hx
        subst hx
        cases e
        exact ⟨nd, fun g => (rh.rs x g).2 ⟨_, h, .inr rfl⟩, _, h2, RDs.ints _⟩
      · cases e
  rs := fun x g => ⟨(rh.rs x g).1, fun ⟨p, q, _⟩ => by cases q⟩
  dk := fun _ _ e => by cases e
theorem closeD (rh : RH K G S H) {a b : Addr} (h : S.dk = some (a, b)) {cells cells' : List Int} {n m : Nat} {S1 : HD} {H1 : Hp} (f1 : FL (openD S a b cells n) H S1 H1) (rh1 : RH K G S1 H1)
    (h1 : S1.hp a = some (.lst [.ref b, .int (m : Int)])) (h2 : S1.hp b = some (.lst (cells'.map D.int))) (hl : cells'.length ≤ 63) (hp : ∀ z ∈ cells', 0 ≤ z) (hm : m ≤ S.c + 1) : FL S H (S.tick 1) H1 ∧ RH K G (S.tick 1) H1 := by
  obtain ⟨nab, ha, hb, _⟩ := rh.dk a b h
  have out : ∀ {x : Addr}, x ≠ a → x ≠ b → (openD S a b cells n).hp x = none := fun {x} n1 n2 => by simp [openD, n1, n2]
  have nd : ∀ x, ¬ Dk (openD S a b cells n) x := fun x ⟨p, q, _⟩ => by cases q
  have ne : ∀ {x : Addr}, ¬ Dk S x → x ≠ a ∧ x ≠ b := fun {x} d => ⟨fun z => d ⟨_, h, .inl z⟩, fun z => d ⟨_, h, .inr z⟩⟩
  have fl : FL S H (S.tick 1) H1 := ⟨fun x o e n d => by
    obtain ⟨n1, n2⟩ := ne d
    exact ⟨n, d, (f1.kp x o e (out n1 n2) (nd x)).2.2⟩, fun p q => q⟩
  refine ⟨fl, ⟨fun x o e => ?_, fun x g => ?_, fun c d e => ?_⟩⟩
  · obtain ⟨d, g, r⟩ := rh.hp x o e
    obtain ⟨n1, n2⟩ := ne d
    obtain ⟨u, q⟩ := r.there
    exact ⟨d, g, r.mv fl.mv (((f1.kp x u q (out n1 n2) (nd x)).2.2).trans q.symm)⟩
  · obtain ⟨⟨o, e⟩, d⟩ := rh.rs x g
    obtain ⟨n1, n2⟩ := ne d
    exact ⟨⟨o, (f1.kp x o e (out n1 n2) (nd x)).2.2⟩, d⟩
  · have e' : S.dk = some (c, d) := e
    rw [h] at e'
    cases e'
    obtain ⟨_, _, vs, e1, r1⟩ := rh1.hp _ _ h1
    obtain ⟨_, _, ws, e2, r2⟩ := rh1.hp _ _ h2
    rw [rds_ints r2] at e2
    have e3 : vs = [.ref b, .int (m : Int)] := by
      cases r1 with
      | cons q r =>
        cases r with
        | cons q' r' => cases r'; cases q; cases q'; rfl
    rw [e3] at e1
    exact ⟨nab, ha, hb, cells', m, e1, e2, hm, hl, hp⟩
/-- a new deck -/
theorem newDeck {S1 : HD} {H1 : Hp} (rh : RH K G S H) (h0 : S.dk = none) (f1 : FL S H S1 H1) (rh1 : RH K G S1 H1) (hs : ∀ x o, S.hp x = some o → S1.hp x = some o) (hd1 : S1.dk = none) {a b : Addr} {cells : List Int} (nab : a ≠ b) (na : S.hp a = none) (nb : S.hp b = none)
    (h1 : S1.hp a = some (.lst [.ref b, .int 0])) (h2 : S1.hp b = some (.lst (cells.map D.int))) (hl : cells.length ≤ 63) (hp : ∀ z ∈ cells, 0 ≤ z) : FL S H { S with dk := some (a, b), c := 0 } H1 ∧ RH K G { S with dk := some (a, b), c := 0 } H1 := by
  have nd1 : ∀ x, ¬ Dk S1 x := fun x ⟨p, q, _⟩ => by rw [hd1] at q; cases q
  have nd : ∀ x, ¬ Dk S x := fun x ⟨p, q, _⟩ => by rw [h0] at q; cases q
  have nd2 : ∀ {x : Addr}, x ≠ a → x ≠ b → ¬ Dk { S with dk := some (a, b), c := 0 } x := fun {x} n1 n2 ⟨p, q, z⟩ => by
    have q' : some (a, b) = some p := q
    cases q'
    exact z.elim n1 n2
  have ne : ∀ {x : Addr}, S1.hp x = none → x ≠ a ∧ x ≠ b := fun {x} e => ⟨fun z => (by rw [z, h1] at e; cases e), fun z => (by rw [z, h2] at e; cases e)⟩
  have back : ∀ {x : Addr}, S1.hp x = none → S.hp x = none := fun {x} e => by
    cases q : S.hp x with
    | none => rfl
    | some o => rw [hs x o q] at e; cases e
  have mv : Mv G S1 H1 G { S with dk := some (a, b), c := 0 } H1 := ⟨fun x o e z => by
    obtain ⟨n1, n2⟩ := ne z.1
    exact ⟨⟨back z.1, nd2 n1 n2, z.2.2⟩, e⟩, fun p q => by rw [hd1] at q; cases q⟩
  refine ⟨⟨fun x o e n d => ?_, fun p q => by rw [h0] at q; cases q⟩, ⟨fun x o e => ?_, fun x g => ?_, fun c d e => ?_⟩⟩
  · obtain ⟨n', d', e'⟩ := f1.kp x o e n d
    obtain ⟨n1, n2⟩ := ne n'
    exact ⟨n, nd2 n1 n2, e'⟩
  · obtain ⟨d, g, r⟩ := rh1.hp x o (hs x o e)
    have n1 : x ≠ a := fun z => by rw [z, na] at e; cases e
    have n2 : x ≠ b := fun z => by rw [z, nb] at e; cases e
    exact ⟨nd2 n1 n2, g, r.mv mv rfl⟩
  · refine ⟨(rh1.rs x g).1, nd2 (fun z => ?_) fun z => ?_⟩
    · exact (rh1.hp _ _ h1).2.1 (z ▸ g)
    · exact (rh1.hp _ _ h2).2.1 (z ▸ g)
  · have e' : some (a, b) = some (c, d) := e
    cases e'
    obtain ⟨_, _, vs, e1, r1⟩ := rh1.hp _ _ h1
    obtain ⟨_, _, ws, e2, r2⟩ := rh1.hp _ _ h2
    rw [rds_ints r2] at e2
    have e3 : vs = [.ref b, .int 0] := by
      cases r1 with
      | cons q r =>
        cases r with
        | cons q' r' => cases r'; cases q; cases q'; rfl
    rw [e3] at e1
    exact ⟨nab, na, nb, cells, 0, e1, e2, Nat.le_refl _, hl, hp⟩
end
/-- a draw: a number below m -/
def spDraw : SpD := fun ds S Q => match ds with
  | [.deck, .int m] => (1 ≤ m ∧ m ≤ 500000000 ∧ S.c < 1000000000000) ∧ ∀ r : Int, 0 ≤ r → r < m → Q (.int r) (S.tick 1)
  | _ => False
/-- the deck of a script -/
def spDeck : SpD := fun ds S Q => match ds with
  | [.lst xs] => (∃ ns : List Int, xs = ns.map D.int) ∧ S.dk = none ∧ ∀ p, Q .deck { S with dk := some p, c := 0 }
  | _ => False
/-- what the body of a draw must do, the deck open -/
def DrawOk (t : TSD) (n : Nat) : Prop := ∀ (S : HD) (a b : Addr) (cells : List Int) (k : Nat) (m : Int), a ≠ b → k < 1000000000000 → cells.length ≤ 63 → (∀ z ∈ cells, 0 ≤ z) → 1 ≤ m → m ≤ 500000000 →
  t { nx := fun _ _ => False, rt := fun d S1 => ∃ (r : Int) (cells' : List Int), d = .int r ∧ 0 ≤ r ∧ r < m ∧ S1.hp a = some (.lst [.ref b, .int ((k + 1 : Nat) : Int)]) ∧ S1.hp b = some (.lst (cells'.map D.int)) ∧ cells'.length ≤ 63 ∧ ∀ z ∈ cells', 0 ≤ z }
    (pad n [.ref a, .int m]) (openD S a b cells k)
/-- what the body that makes a deck must do -/
def DeckOk (t : TSD) (n : Nat) : Prop := ∀ (S : HD) (ns : List Int), S.dk = none →
  t { nx := fun _ _ => False, rt := fun d S1 => ∃ (a b : Addr) (cells : List Int), d = .ref a ∧ a ≠ b ∧ S.hp a = none ∧ S.hp b = none ∧ S1.hp a = some (.lst [.ref b, .int 0]) ∧ S1.hp b = some (.lst (cells.map D.int)) ∧ cells.length ≤ 63 ∧ (∀ z ∈ cells, 0 ≤ z) ∧ (∀ x o, S.hp x = some o → S1.hp x = some o) ∧ S1.dk = none }
    (pad n [.lst (ns.map D.int)]) S
section
variable {P : Program} {w : World} {K : PySem.W.Frag} {mg : Str → Option Value} {base : Heap} {x qual : Str} {st : Stmt} {f : Addr} {fd : FuncData} {N : List Str} {k : Nat}
theorem FnD.draw {p1 p2 : Str} (F : Fun K x qual st f fd) (Sc : FnScope N [p1, p2] (defScope st)) (t : TSD)
    (hd : ∀ (cdv : Value) (A : Around) (outer : List Env) (s : Shared) (H : Hp), RoomG k (A.deeper (envOfC qual (defScope st) s.heap.objs.size f cdv)) →
      DSs (cxOf CX0 P w K mg base N qual (defScope st) f cdv A outer s H E0).nox (defBody st) t)
    (ok : DrawOk t N.length) : FnD P w K mg base (k + 1) f fd [p1, p2] spDraw := by
  refine FnD.core F Sc t (fun ds S Q q => ?_) hd fun ds S Qd hsp G H vs rh rd => ?_
  · unfold spDraw at q
    split at q
    · rfl
    · exact q.elim
  · unfold spDraw at hsp
    split at hsp
    · rename_i m
      obtain ⟨⟨m1, m2, m3⟩, hsp⟩ := hsp
      cases rd with
      | cons q r =>
        cases r with
        | cons q' r' =>
          cases r'; cases q'
          cases q with
          | @deck a b e =>
            obtain ⟨nab, ha, hb, cells, n, h1, h2, h3, h4, h5⟩ := rh.dk a b e
            refine ⟨_, _, _, openD_rh rh e h1 h2, .cons (.ref a) (.cons (.int m) .nil), ok S a b cells n m nab (by omega) h4 h5 m1 m2, ?_, fun _ _ _ _ _ q => q.elim, fun _ _ q => q, fun _ _ q => q, fun _ _ _ q => q⟩
            rintro S1 d v H1 f1 rh1 rd1 ⟨r, cells', rfl, r0, r1, g1, g2, g3, g4⟩
            cases rd1
            obtain ⟨fl, rh2⟩ := closeD rh e f1 rh1 g1 g2 g3 g4 (by omega)
            exact ⟨_, .int r, fl, rh2, .int r, hsp r r0 r1⟩
    · exact hsp.elim
theorem FnD.deck {p1 : Str} (F : Fun K x qual st f fd) (Sc : FnScope N [p1] (defScope st)) (t : TSD)
    (hd : ∀ (cdv : Value) (A : Around) (outer : List Env) (s : Shared) (H : Hp), RoomG k (A.deeper (envOfC qual (defScope st) s.heap.objs.size f cdv)) →
      DSs (cxOf CX0 P w K mg base N qual (defScope st) f cdv A outer s H E0).nox (defBody st) t)
    (ok : DeckOk t N.length) : FnD P w K mg base (k + 1) f fd [p1] spDeck := by
  refine FnD.core F Sc t (fun ds S Q q => ?_) hd fun ds S Qd hsp G H vs rh rd => ?_
  · unfold spDeck at q
    split at q
    · rfl
    · exact q.elim
  · unfold spDeck at hsp
    split at hsp
    · obtain ⟨⟨ns, rfl⟩, h0, hsp⟩ := hsp
      refine ⟨_, S, _, rh, rd, ok S ns h0, ?_, fun _ _ _ _ _ q => q.elim, fun _ _ q => q, fun _ _ q => q, fun _ _ _ q => q⟩
      rintro S1 d v H1 f1 rh1 rd1 ⟨a, b, cells, rfl, nab, na, nb, h1, h2, h3, h4, h5, h6⟩
      cases rd1
      obtain ⟨fl, rh2⟩ := newDeck rh h0 f1 rh1 h5 h6 nab na nb h1 h2 h3 h4
      exact ⟨_, .deck, fl, rh2, .deck rfl, hsp (a, b)⟩
    · exact hsp.elim
end
end PD
end
section
/-! PD11: small rules that the printer of derivations uses. -/
namespace PD
open PySem PySem.Spec PyProof.Rows L2
section
variable {X : Cx} {a b c e : Expr} {ta tb tc : TED} {pos : Pos}
theorem dt_isN {j pos'} (ha : DE X a ta) : DT X (.Compare a [.Is] [.Constant .none j pos'] pos) (tTst (tUnD rIsN ta)) :=
  (pt_cmp (pc_isN ha) rfl).imp fun σ H Q ⟨G, σd, S, Qd, rs, rh, t, p⟩ => ⟨G, σd, S, _, rs, rh, t, fun S1 d v H1 f1 rh1 q1 t1 => ⟨_, rfl, by rw [isN_v q1]; exact p S1 _ H1 f1 rh1 t1⟩⟩
theorem dt_notN {j pos'} (ha : DE X a ta) : DT X (.Compare a [.IsNot] [.Constant .none j pos'] pos) (tTst (tUnD rNotN ta)) :=
  (pt_cmp (pc_notN ha) rfl).imp fun σ H Q ⟨G, σd, S, Qd, rs, rh, t, p⟩ => ⟨G, σd, S, _, rs, rh, t, fun S1 d v H1 f1 rh1 q1 t1 => ⟨_, rfl, by rw [isN_v q1]; exact p S1 _ H1 f1 rh1 t1⟩⟩
theorem de_gI {x : Str} {i : Int} {pos : Pos} (hm : ∃ t, X.mg x = some (.int i t)) (hg : Gl X x := by rfl) (hd : (x == ("__debug__" : Str)) = false := by decide) : DE X (.Name x pos) (tCD (.int i)) :=
  let ⟨_, h⟩ := hm; de_globI hg h hd
theorem de_eq {k : Nat} (hr : RoomG k X.A) (hB : SysB X.base) (ha : DE X a ta) (hb : DE X b tb) : DE X (.Compare a [.Eq] [b] pos) (tBin rEqD ta tb) := de_cmp (op_eqRD hr hB).toR lift2 ha hb (nomark _)
theorem dt_eq {k : Nat} (hr : RoomG k X.A) (hB : SysB X.base) (ha : DE X a ta) (hb : DE X b tb) : DT X (.Compare a [.Eq] [b] pos) (tTst (tBin rEqD ta tb)) := dt_cmp (op_eqRD hr hB).toR lift2 ha hb (nomark _)
theorem dt_ne {k : Nat} (hr : RoomG k X.A) (hB : SysB X.base) (ha : DE X a ta) (hb : DE X b tb) : DT X (.Compare a [.NotEq] [b] pos) (tTst (tBin rNeD ta tb)) := dt_cmp (op_neRD hr hB).toR lift2 ha hb (nomark _)
theorem dt_lt (ha : DE X a ta) (hb : DE X b tb) : DT X (.Compare a [.Lt] [b] pos) (tTst (tBin (rCmpI fLt) ta tb)) := dt_cmp op_lt cmpI ha hb (nomark _)
theorem dt_gt (ha : DE X a ta) (hb : DE X b tb) : DT X (.Compare a [.Gt] [b] pos) (tTst (tBin (rCmpI fGt) ta tb)) := dt_cmp op_gt cmpI ha hb (nomark _)
theorem dt_ge (ha : DE X a ta) (hb : DE X b tb) : DT X (.Compare a [.GtE] [b] pos) (tTst (tBin (rCmpI fGe) ta tb)) := dt_cmp op_ge cmpI ha hb (nomark _)
/-- {} that stays empty -/
def tDicV : TED := fun _ S Q => Q (.dic []) S
theorem bt_repr : bootBuiltins "repr" = some (.builtin "repr") := by decide +kernel
theorem bt_len : bootBuiltins "len" = some (.builtin "len") := by decide +kernel
theorem bt_abs : bootBuiltins "abs" = some (.builtin "abs") := by decide +kernel
theorem bt_int : bootBuiltins "int" = some (.type "int") := by decide +kernel
theorem bt_bool : bootBuiltins "bool" = some (.type "bool") := by decide +kernel
theorem bt_tuple : bootBuiltins "tuple" = some (.type "tuple") := by decide +kernel
theorem bt_list : bootBuiltins "list" = some (.type "list") := by decide +kernel
theorem bt_dict : bootBuiltins "dict" = some (.type "dict") := by decide +kernel
end
end PD
end
section
/-! PD12: the law's end over deep values. -/
namespace PD
open PySem PySem.Spec PyProof.Rows L2
/-- the law's promise: from the script it answers True -/
def spLaw : SpD := fun ds S Q => ∃ ns : List Int, ds = [.lst (ns.map D.int)] ∧ ns.length ≤ 63 ∧ S.hp = (fun _ => none) ∧ S.c = 0 ∧ S.dk = none ∧ ∀ S', Q (.bl true) S'
def S00 : HD := ⟨fun _ => none, 0, none⟩
theorem rds_ofInts {K : PySem.W.Frag} {G : Addr → Prop} {S : HD} {H : Hp} : ∀ ns : List Int, RDs K G S H (ns.map D.int) (ns.map V.int)
  | [] => .nil
  | n :: ns => .cons (.int n) (rds_ofInts ns)
section
variable {P : Program} {w : World} {K : PySem.W.Frag} {mg mb : Str → Option Value} {k : Nat} {fa a : Addr} {fd : FuncData} {x : Str} {s₁ : Shared} {vs : List Value} {ns : List Int}
/-- the script alone is tracked, or nothing -/
def scr (a : Addr) (vs : List Value) (ns : List Int) : Hp := fun b => if b = a then some (.frz { cls := .type "list", data := .seq vs.toArray } (.lst (ns.map V.int))) else none
def AOnly (a : Addr) (vs : List Value) (ns : List Int) (H : Hp) : Prop := (∀ b, H b = none) ∨ (∀ b, H b = scr a vs ns b)
theorem AOnly.cs {H : Hp} (h : AOnly a vs ns H) (b : Addr) : H b = none ∨ (b = a ∧ H b = some (.frz { cls := .type "list", data := .seq vs.toArray } (.lst (ns.map V.int)))) := by
  rcases h with h | h
  · exact .inl (h b)
  · rw [h b]
    unfold scr
    by_cases e : b = a
    · exact .inr ⟨e, if_pos e⟩
    · exact .inl (if_neg e)
theorem law_callD1 (KX : K.In s₁.heap) (hns : s₁.heap.Ns mainGlobals mg) (hsy : SysB s₁.heap) (hb : s₁.heap.Ns builtinsNs mb) (hbb : ∀ x : Str, x ≠ "__name__" → mb x = bootBuiltins x) (hlim : s₁.heap.NoLimit) (hg : s₁.gens = #[])
    (ha : s₁.heap.get? a = some { cls := .type "list", data := .seq vs.toArray }) (hl : ns.length ≤ 63) (hr : RoomG k callerA)
    (F : ∀ base : Heap, K.In base → base.Ns mainGlobals mg → SysB base → FnD P w K mg base k fa fd [x] spLaw) (hbind : ∀ (s : Shared) (u : Value), BindsTo s fd ⟨[u], []⟩ [(x, u)])
    {H : Hp} (hO : AOnly a vs ns H) (hS : FzL K (fun _ => False) S00 H a (ns.map V.int)) (hok : HOk P w H s₁.heap) (hK : H a ≠ none → K.lookup a = none) :
    codeAny (model P w) callerA (.call (.ref fa) ⟨[.ref a], []⟩) (fun r s' => r = .ok (.ret (.bool true)) ∧ OldK s₁.heap s'.heap ∧ s'.os = s₁.os ∧ AllBare s'.gens) s₁ := by
  have nd : ∀ {b : Addr} {o : Obj} {es : Array DictEntry} {ep : Nat}, s₁.heap.get? b = some o → o.data = .dict es ep → H b = none := fun {b o es ep} e d => by
    rcases hO.cs b with z | ⟨z, _⟩
    · exact z
    · subst z
      rw [ha] at e
      cases e
      exact nomatch (show Data.seq vs.toArray _ = Data.dict es ep from d)
  have ns' : ∀ {b : Addr} {m : Str → Option Value}, s₁.heap.Ns b m → (hidT s₁.heap H).Ns b m := fun {b m} ⟨o, es, ep, e, d, r⟩ => ⟨o, es, ep, hidT_get e (nd e d), d, r⟩
  have kin : K.In (hidT s₁.heap H) := fun b o e => hidT_get (KX b o e) (by
    rcases hO.cs b with z | ⟨z, z'⟩
    · exact z
    · subst z
      rw [hK (by rw [z']; simp)] at e
      cases e)
  have sy : SysB (hidT s₁.heap H) := let ⟨mm, h⟩ := hsy; ⟨mm, ns' h⟩
  have md : Mod K mg (hidT s₁.heap H) := ⟨kin, ns' hns, ⟨mb, ns' hb, hbb⟩, let ⟨mc, h1, h2⟩ := hlim; ⟨mc, ns' h1, h2⟩⟩
  have ev : Env0 P w K mg (hidT s₁.heap H) callerA [] s₁ H := ⟨rfl, md, fun b o e => of_hidT e, Nat.le_of_eq (hidT_size _ _), trivial, fun b hb => (nomatch (show b ∈ ([] : List Addr) from hb)), hok, .of_eq hg⟩
  have run := (F _ kin (ns' hns) sy).run callerA [] s₁ H ⟨[.ref a], []⟩ [.ref a] [.ref a] [.lst (ns.map D.int)] (fun _ => False) S00 (fun d _ => d = .bl true) hr ev (hbind s₁ (.ref a)) (.cons rfl .nil)
    (.cons (.lst hS (rds_ofInts ns)) .nil) ⟨fun _ _ e => (nomatch (show (none : Option OD) = some _ from e)), fun b (g : False) => False.elim g, fun _ _ e => (nomatch (show (none : Option (Addr × Addr)) = some _ from e))⟩ ⟨ns, rfl, hl, rfl, rfl, rfl, fun _ => rfl⟩
  refine codeAny_mono run fun r s' h => ?_
  match r, h with
  | .error e, h => exact False.elim h
  | .ok .next, h => exact False.elim h
  | .ok .brk, h => exact False.elim h
  | .ok .cont, h => exact False.elim h
  | .ok (.ret u), h =>
    obtain ⟨v, H', os, bare, un, hok', r', S', d, _, _, rd, rfl⟩ := h
    cases rd
    obtain rfl : u = Value.bool true := r'
    refine ⟨rfl, OldK.of_keep fun b o e => ?_, os, bare⟩
    rcases hO.cs b with z | ⟨_, z⟩
    · exact un.keep b o e z (fun q => nomatch (show b ∈ ([] : List Addr) from q)) (by simp)
    · obtain ⟨e1, _⟩ := hok b _ z
      obtain ⟨e2, _⟩ := hok' b _ (un.frzs b _ _ z)
      exact e2.trans (e1.symm.trans e)
theorem law_callD (KX : K.In s₁.heap) (hns : s₁.heap.Ns mainGlobals mg) (hsy : SysB s₁.heap) (hb : s₁.heap.Ns builtinsNs mb) (hbb : ∀ x : Str, x ≠ "__name__" → mb x = bootBuiltins x) (hlim : s₁.heap.NoLimit) (hg : s₁.gens = #[])
    (ha : s₁.heap.get? a = some { cls := .type "list", data := .seq vs.toArray }) (hi : IntsAre vs ns) (hl : ns.length ≤ 63) (hr : RoomG k callerA)
    (F : ∀ base : Heap, K.In base → base.Ns mainGlobals mg → SysB base → FnD P w K mg base k fa fd [x] spLaw) (hbind : ∀ (s : Shared) (u : Value), BindsTo s fd ⟨[u], []⟩ [(x, u)]) :
    codeAny (model P w) callerA (.call (.ref fa) ⟨[.ref a], []⟩) (fun r s' => r = .ok (.ret (.bool true)) ∧ OldK s₁.heap s'.heap ∧ s'.os = s₁.os ∧ AllBare s'.gens) s₁ := by
  have rv := vals_ints hi
  have hz : ns.length ≤ sizeLine := Nat.le_trans hl (by decide)
  have hvz : vs.toArray.size ≤ sizeLine := by rw [List.size_toArray, hi.length]; exact hz
  have nofz : Fz (fun _ => False) S00 a := ⟨rfl, fun z => let ⟨_, e, _⟩ := z; (nomatch (show (none : Option (Addr × Addr)) = some _ from e)), id⟩
  cases hk : K.lookup a with
  | some o =>
    have e := KX a o hk
    rw [ha] at e
    cases e
    exact law_callD1 KX hns hsy hb hbb hlim hg ha hl hr F hbind (H := fun _ => none) (.inl fun _ => rfl) (.inr ⟨_, vs.toArray, _, hk, rfl, rfl, rfl, hvz, by simpa using rv⟩) (fun b u z => nomatch (show (none : Option HO) = some u from z)) fun z => absurd rfl z
  | none =>
    refine law_callD1 KX hns hsy hb hbb hlim hg ha hl hr F hbind (H := scr a vs ns) (.inr fun _ => rfl) (.inl ⟨nofz, .inr ⟨_, if_pos rfl⟩⟩) (fun b u z => ?_) fun _ => hk
    by_cases hb' : b = a
    · cases (if_pos hb').symm.trans z
      subst hb'
      exact ⟨ha, by rw [List.length_map]; exact hz, vs, _, rv, ha⟩
    · exact nomatch (if_neg hb').symm.trans z
end
/-- what the head leaves -/
theorem walk_D {l : PySem.W.OpenLaw} {k : Nat} {q : Program} {loose : List Str} {XP : (Str → Option Value) → Heap → Prop} {YP : World → Heap → Prop} {d : DefRec} {K : Params → PySem.W.Frag} {x : Str}
    (hn : l.most = some 63) (hdf : d.params.defaults = []) (hr : RoomG k callerA) (hi : importsNone q = true) (hY : ∀ (w : World) (h : Heap), YP w h → (K w.params).In h)
    (F : ∀ (w : World) (mg : Str → Option Value) (fa : Addr) (h : Heap), (K w.params).In h → h.Ns mainGlobals mg → mg d.name = some (.ref fa) →
      ∃ fd : FuncData, (∀ (s : Shared) (u : Value), BindsTo s fd ⟨[u], []⟩ [(x, u)]) ∧ ∀ base : Heap, (K w.params).In base → base.Ns mainGlobals mg → SysB base → FnD l.prog w (K w.params) mg base k fa fd [x] spLaw) :
    PySem.W.WalkO q loose XP YP l.row.toRowW d [] (fun f vs => PySem.call f vs) :=
  Att.attach_call hn hdf fun w s₀ s₁ mg mb fa o pm cd doc a vs ns G Y ho hd hcd hmg hobj hints hlen hg =>
    let KX := hY w _ Y
    let ⟨_, hb, hF⟩ := F w mg fa _ KX G.T.g hmg
    law_callD KX G.T.g (let ⟨mm, h, _⟩ := (G.T.seer hi).mods; ⟨mm, h⟩) G.T.b G.T.builtins G.T.nolimit hg hobj hints hlen hr hF hb
end PD
end
section
/-! PD13: a tuple read from behind. -/
namespace PD
open PySem PySem.Spec PyProof.Rows L2
section
variable {X : Cx} {e : Expr} {ta : TED}
/-- t[::-1] -/
def tRevTD (te : TED) : TED := fun σ S Q => te σ S fun d S1 => match d with
  | .tup xs => Q (.tup xs.reverse) S1
  | _ => False
end
end PD
end
section
/-! PD14: tracked sums and products of lists; a def by the written part. -/
namespace PD
open PySem PySem.Spec PyProof.Rows L2
section
variable {X : Cx} {a b : Expr} {ta tb : TED} {pos : Pos}
/-- xs + ys, tracked -/
def rAddR : R2D := fun x y S Q => match asLst S x, asLst S y with
  | some xs, some ys => xs.length + ys.length ≤ sizeLine ∧ ∀ p, S.hp p = none → Q (.ref p) (S.set p (.lst (xs ++ ys)))
  | _, _ => False
/-- xs * n, tracked -/
def rMulR : R2D := fun x y S Q => match asLst S x, y with
  | some xs, .int k => (0 ≤ k ∧ k < 2 ^ 60 ∧ xs.length * k.toNat ≤ sizeLine) ∧ ∀ p, S.hp p = none → Q (.ref p) (S.set p (.lst (List.replicate k.toNat xs).flatten))
  | _, _ => False
end
/-- a def of the module, in the written part -/
structure DefOf (K : PySem.W.Frag) (mg : Str → Option Value) (x : Str) (st : Stmt) : Prop where
  ex : ∃ f fd, Fun K x x st f fd ∧ mg x = some (.ref f)
theorem defOf_mk {x : Str} {K : PySem.W.Frag} {h : Heap} {mg : Str → Option Value} (X : K.In h) (G : h.Ns mainGlobals mg) {st : Stmt} {f : Addr} {od an : Option Addr} {sl : Array (Option Value)} {oc kV dc pm cd ct : Value}
    (a : PySem.W.nsIn K mainGlobals x = some (some (.ref f))) (l : K.lookup f = some ⟨oc, od, .func (PySem.W.fnOf x x (defArgs st) (defBody st) (defScope st) .none kV dc pm an cd ct), sl⟩) (c : PySem.W.codeIn K cd x = true) (k : PySem.W.keepIn K (.ref f) = true) : DefOf K mg x st := ⟨⟨f, _, fun_mk (st := st) l c k, PySem.W.mg_of X G a⟩⟩
end PD
end
section
/-! PD15: readings by values: a set of rules for simp, loops by invariants, the helpers that draw. -/
namespace PD
open PySem PySem.Spec PyProof.Rows L2
section
variable {S : HD}
theorem nrm_non : nrm S .non = .non := rfl
theorem nrm_bl {b : Bool} : nrm S (.bl b) = .bl b := rfl
theorem nrm_int {b : Int} : nrm S (.int b) = .int b := rfl
theorem nrm_str {b : Str} : nrm S (.str b) = .str b := rfl
theorem nrm_tup {b : List D} : nrm S (.tup b) = .tup b := rfl
theorem nrm_lst {b : List D} : nrm S (.lst b) = .lst b := rfl
theorem nrm_dic {b : List (D × D)} : nrm S (.dic b) = .dic b := rfl
theorem nrm_ref {a : Addr} : nrm S (.ref a) = match S.hp a with
    | some (.lst xs) => .lst xs
    | _ => .ref a := rfl
end
theorem gt_z {x : Option D} {r : SD} : gt (x :: r) 0 = x := rfl
theorem gt_s {x : Option D} {r : SD} {n : Nat} : gt (x :: r) (n + 1) = gt r n := rfl
theorem st_z {x : Option D} {r : SD} {d : D} : st (x :: r) 0 d = some d :: r := rfl
theorem st_s {x : Option D} {r : SD} {n : Nat} {d : D} : st (x :: r) (n + 1) d = x :: st r n d := rfl
/-! ### comprehensions, loops by invariants -/
/-- the state stays: what the items give -/
theorem lcD_pure {g : TGD} {tt : TTD} {te : TED} {σ : SD} {keep : HD → Prop} {Q : List D → HD → Prop} (f : D → Option D) {S : HD} (hk : keep S) : ∀ (xs acc : List D),
    (∀ d ∈ xs, ∀ (Q1 : D → HD → Prop) (Q0 : HD → Prop), (match f d with | some y => Q1 y S | none => Q0 S) → g d σ S fun σ2 S2 => tt σ2 S2 fun b S3 => if b = true then te σ2 S3 Q1 else Q0 S3) →
    Q (acc ++ xs.filterMap f) S → lcD g tt te σ keep Q xs acc S
  | [], acc, _, q => ⟨hk, by simpa using q⟩
  | d :: r, acc, h, q => ⟨hk, h d List.mem_cons_self _ _ (by
      cases e : f d with
      | none => exact lcD_pure f hk r acc (fun d hd => h d (List.mem_cons_of_mem _ hd)) (by simpa [List.filterMap_cons, e] using q)
      | some y => exact lcD_pure f hk r (acc ++ [y]) (fun d hd => h d (List.mem_cons_of_mem _ hd)) (by simpa [List.filterMap_cons, e] using q))⟩
/-- by an invariant of what is made and the state -/
theorem lcD_inv {g : TGD} {tt : TTD} {te : TED} {σ : SD} {keep : HD → Prop} {Q : List D → HD → Prop} (I : Nat → List D → HD → Prop) {all : List D}
    (step : ∀ (i : Nat) (d : D) (acc : List D) (S : HD) (N : List D → HD → Prop), all[i]? = some d → I i acc S → (∀ acc S, I (i + 1) acc S → N acc S) → keep S ∧ g d σ S fun σ2 S2 => tt σ2 S2 fun b S3 => if b = true then te σ2 S3 (fun y S4 => N (acc ++ [y]) S4) else N acc S3)
    (stop : ∀ acc S, I all.length acc S → keep S ∧ Q acc S) : ∀ (xs : List D) (i : Nat) (acc : List D) (S : HD), xs = all.drop i → i ≤ all.length → I i acc S → lcD g tt te σ keep Q xs acc S
  | [], i, acc, S, e, hi, h => by
    have : i = all.length := by have := congrArg List.length e; simp at this; omega
    subst this
    exact stop acc S h
  | d :: r, i, acc, S, e, hi, h => by
    have hl : i < all.length := by
      apply Nat.lt_of_not_le
      intro q
      rw [List.drop_of_length_le q] at e
      cases e
    rw [List.drop_eq_getElem_cons hl] at e
    injection e with e1 e2
    exact step i d acc S (fun acc S => lcD g tt te σ keep Q r acc S) (by simp [hl, e1]) h fun acc S h => lcD_inv I step stop r (i + 1) acc S e2 hl h
theorem lcD_go {g : TGD} {tt : TTD} {te : TED} {σ : SD} {keep : HD → Prop} {Q : List D → HD → Prop} (I : Nat → List D → HD → Prop) {xs : List D} {S : HD} (h0 : I 0 [] S)
    (step : ∀ (i : Nat) (d : D) (acc : List D) (S : HD) (N : List D → HD → Prop), xs[i]? = some d → I i acc S → (∀ acc S, I (i + 1) acc S → N acc S) → keep S ∧ g d σ S fun σ2 S2 => tt σ2 S2 fun b S3 => if b = true then te σ2 S3 (fun y S4 => N (acc ++ [y]) S4) else N acc S3)
    (stop : ∀ acc S, I xs.length acc S → keep S ∧ Q acc S) : lcD g tt te σ keep Q xs [] S := lcD_inv I step stop xs 0 [] S rfl (Nat.zero_le _) h0
theorem loopD_inv {g : TGD} {tb : TSD} {E : EndsD} {keep : HD → Prop} (I : Nat → SD → HD → Prop) {all : List D}
    (step : ∀ (i : Nat) (d : D) (σ : SD) (S : HD) (N : SD → HD → Prop), all[i]? = some d → I i σ S → (∀ σ S, I (i + 1) σ S → N σ S) → keep S ∧ g d σ S fun σ2 S2 => tb { nx := N, ct := N, bk := E.nx, rt := E.rt, xr := E.xr } σ2 S2)
    (stop : ∀ σ S, I all.length σ S → keep S ∧ E.nx σ S) : ∀ (xs : List D) (i : Nat) (σ : SD) (S : HD), xs = all.drop i → i ≤ all.length → I i σ S → loopD g tb E keep xs σ S
  | [], i, σ, S, e, hi, h => by
    have : i = all.length := by have := congrArg List.length e; simp at this; omega
    subst this
    exact stop σ S h
  | d :: r, i, σ, S, e, hi, h => by
    have hl : i < all.length := by
      apply Nat.lt_of_not_le
      intro q
      rw [List.drop_of_length_le q] at e
      cases e
    rw [List.drop_eq_getElem_cons hl] at e
    injection e with e1 e2
    exact step i d σ S (loopD g tb E keep r) (by simp [hl, e1]) h fun σ S h => loopD_inv I step stop r (i + 1) σ S e2 hl h
theorem loopD_go {g : TGD} {tb : TSD} {E : EndsD} {keep : HD → Prop} (I : Nat → SD → HD → Prop) {xs : List D} {σ : SD} {S : HD} (h0 : I 0 σ S)
    (step : ∀ (i : Nat) (d : D) (σ : SD) (S : HD) (N : SD → HD → Prop), xs[i]? = some d → I i σ S → (∀ σ S, I (i + 1) σ S → N σ S) → keep S ∧ g d σ S fun σ2 S2 => tb { nx := N, ct := N, bk := E.nx, rt := E.rt, xr := E.xr } σ2 S2)
    (stop : ∀ σ S, I xs.length σ S → keep S ∧ E.nx σ S) : loopD g tb E keep xs σ S := loopD_inv I step stop xs 0 σ S rfl (Nat.zero_le _) h0
theorem rngD_get {lo : Int} {n i : Nat} {d : D} (h : (rngD lo n)[i]? = some d) : i < n ∧ d = .int (lo + i) := by
  unfold rngD at h
  rw [List.getElem?_map] at h
  by_cases hi : i < n
  · rw [List.getElem?_range hi] at h
    cases h
    exact ⟨hi, rfl⟩
  · rw [List.getElem?_eq_none (by simpa using hi)] at h
    cases h
theorem fin.here {Q : QD} {d : D} {S : HD} (q : Q d S) : fin Q d S := .le (.refl _) q
/-! ### one of the items -/
def spOne : SpD := fun ds S Q => ∃ x xs, ds = [.deck, x] ∧ asSeq S x = some xs ∧ xs ≠ [] ∧ xs.length ≤ 500000000 ∧ S.c < 1000000000000 ∧ ∀ d ∈ xs, Q d (S.tick 1)
theorem asSeq_tick {S : HD} {n : Nat} {x : D} : asSeq (S.tick n) x = asSeq S x := by cases x <;> rfl
theorem atI_nat {α : Type} {xs : List α} {r : Int} (h0 : 0 ≤ r) (h1 : r < xs.length) : ∃ d, atI xs r = some d ∧ d ∈ xs := by
  have h2 : r.toNat < xs.length := by omega
  refine ⟨xs[r.toNat], ?_, List.getElem_mem h2⟩
  unfold atI ixN
  rw [if_pos h0, if_pos h1]
  simp [h2]
end PD
end
section
local macro_rules | `(tactic| walk_at "rdx") => `(tactic| simp only [PD.pad, PD.gt_z, PD.gt_s, PD.st_z, PD.st_s, PD.sNextD, PD.sSeqD, PD.sBreakD, PD.sContD, PD.sDropD, PD.sRetD, PD.sRetND, PD.sIfD, PD.sNeverD, PD.sAsgD, PD.sPar2, PD.sPar3, PD.gNameD, PD.gNilD, PD.gConsD, PD.gTupD, PD.gSubD, PD.tNilD, PD.tConsD, PD.tTupD, PD.tLstV, PD.tLstR, PD.tBin, PD.tTst, PD.tAndD, PD.tOrD, PD.tNotD, PD.tIfD, PD.tAndV, PD.tOrV, PD.tNotV, PD.tUnD, PD.rNeg, PD.tCallD, PD.tSlot, PD.tCD, PD.tChainD, PD.rIsN, PD.rNotN, PD.isN, PD.rIsiD, PD.isiB, PD.Ty.name, PD.rCmpI, PD.fLt, PD.fLe, PD.fGt, PD.fGe, PD.rAddD, PD.rSubD, PD.rFdivD, PD.rModD, PD.rPowD, PD.rMulD, PD.rAddR, PD.rMulR, PD.asSeq, PD.asLst, PD.rLenD, PD.rTupleD, PD.rListV, PD.rListR, PD.rIntD, PD.rBoolD, PD.rAbsD, PD.rIxD, PD.oNone, PD.oSome, PD.tSlD, PD.rSlD, PD.tRevTD, PD.rEqD, PD.rNeD, PD.nrm, PD.iSeqD, PD.iRng1D, PD.iRng2D, PD.sForD, PD.tLcV, PD.tLcR, PD.tYesD, PD.wipeD, PD.tMethL, PD.rAppD, PD.isRefL, PD.tDicV, PD.rSetD, PD.rReprD, reduceIte, true_and, and_true, Bool.not_true, Bool.not_false, Bool.false_eq_true, List.length_cons, List.length_nil, List.set_cons_zero, List.set_cons_succ, PD.HD.set_same, PD.HD.tick_hp, PD.HD.tick_c, PD.HD.tick_dk, PD.HD.set_c, PD.HD.set_dk])
/-! PD16: the helpers that draw. -/
namespace PD
open PySem PySem.Spec PyProof.Rows
def rdDeck : TSD :=
  sRetD (tLstR (tConsD (tLcR (iSeqD (tSlD (tSlot 0) (oNone) (oSome (tCD (.int 63))))) (gNameD 1) (tYesD) (tCallD rAbsD (tConsD (tSlot 1) (tNilD))) [1]) (tConsD (tCD (.int 0)) (tNilD))))
def rdDraw : TSD :=
  sSeqD (sAsgD (tBin rAddD (tBin rIxD (tSlot 0) (tCD (.int 1))) (tCD (.int 1))) (gSubD (tSlot 0) (tCD (.int 1))))
  (sSeqD (sAsgD (tTupD (tConsD (tCD (.int 0)) (tConsD (tUnD rNeg (tCD (.int 1))) (tNilD)))) (gTupD 2 (gConsD (gNameD 2) (gConsD (gNameD 3) (gNilD)))))
  (sSeqD (sIfD (tTst (tBin (rCmpI fGt) (tCallD rLenD (tConsD (tBin rIxD (tSlot 0) (tCD (.int 0))) (tNilD))) (tCD (.int 0)))) (sSeqD (sAsgD (tBin rModD (tCallD rIntD (tConsD (tBin rIxD (tSlot 0) (tCD (.int 1))) (tNilD))) (tCallD rLenD (tConsD (tBin rIxD (tSlot 0) (tCD (.int 0))) (tNilD)))) (gNameD 3))
  (sAsgD (tBin rIxD (tBin rIxD (tSlot 0) (tCD (.int 0))) (tSlot 3)) (gNameD 2))) (sNextD))
  (sSeqD (sIfD (tTst (tBin (rCmpI fGe) (tSlot 2) (tBin rPowD (tCD (.int 10)) (tCD (.int 18))))) (sSeqD (sAsgD (tBin rFdivD (tCallD rIntD (tConsD (tSlot 2) (tNilD))) (tSlot 1)) (gSubD (tBin rIxD (tSlot 0) (tCD (.int 0))) (tSlot 3)))
  (sRetD (tBin rModD (tCallD rIntD (tConsD (tSlot 2) (tNilD))) (tSlot 1)))) (sNextD))
  (sSeqD (sAsgD (tBin rAddD (tBin rAddD (tBin rModD (tCallD rIntD (tConsD (tSlot 2) (tNilD))) (tCD (.int 2147483563))) (tBin rMulD (tCD (.int 8117)) (tBin rIxD (tSlot 0) (tCD (.int 1))))) (tCD (.int 3))) (gNameD 4))
  (sRetD (tBin rModD (tCallD rIntD (tConsD (tBin rModD (tCallD rIntD (tConsD (tBin rPowD (tSlot 4) (tCD (.int 5))) (tNilD))) (tCD (.int 2147483629))) (tNilD))) (tSlot 1)))))))
def rdOne (sp : SpD) : TSD :=
  sRetD (tBin rIxD (tSlot 1) (tCallD sp (tConsD (tSlot 0) (tConsD (tCallD rLenD (tConsD (tSlot 1) (tNilD))) (tNilD)))))
theorem atI20 {x y : D} : L2.atI [x, y] 0 = some x := rfl
theorem atI21 {x y : D} : L2.atI [x, y] 1 = some y := rfl
theorem ixN21 : L2.ixN (0 + 1 + 1) 1 = some 1 := rfl
/-- the end of a draw: a number, the deck as it was but for one cell -/
def drawn (a b : Addr) (k : Nat) (m : Int) : QD := fun d S1 => ∃ (r : Int) (cells' : List Int), d = .int r ∧ 0 ≤ r ∧ r < m ∧ S1.hp a = some (.lst [.ref b, .int ((k + 1 : Nat) : Int)]) ∧ S1.hp b = some (.lst (cells'.map D.int)) ∧ cells'.length ≤ 63 ∧ ∀ z ∈ cells', 0 ≤ z
/-- behind the choice of the cell -/
def rdTail : TSD :=
  (sSeqD (sIfD (tTst (tBin (rCmpI fGe) (tSlot 2) (tBin rPowD (tCD (.int 10)) (tCD (.int 18))))) (sSeqD (sAsgD (tBin rFdivD (tCallD rIntD (tConsD (tSlot 2) (tNilD))) (tSlot 1)) (gSubD (tBin rIxD (tSlot 0) (tCD (.int 0))) (tSlot 3)))
  (sRetD (tBin rModD (tCallD rIntD (tConsD (tSlot 2) (tNilD))) (tSlot 1)))) (sNextD))
  (sSeqD (sAsgD (tBin rAddD (tBin rAddD (tBin rModD (tCallD rIntD (tConsD (tSlot 2) (tNilD))) (tCD (.int 2147483563))) (tBin rMulD (tCD (.int 8117)) (tBin rIxD (tSlot 0) (tCD (.int 1))))) (tCD (.int 3))) (gNameD 4))
  (sRetD (tBin rModD (tCallD rIntD (tConsD (tBin rModD (tCallD rIntD (tConsD (tBin rPowD (tSlot 4) (tCD (.int 5))) (tNilD))) (tCD (.int 2147483629))) (tNilD))) (tSlot 1)))))
theorem tail_ok {S : HD} {a b : Addr} {cells : List Int} {k : Nat} {m c at_ : Int} (hab : a ≠ b) (hk : k < 1000000000000) (hl : cells.length ≤ 63) (h0 : ∀ z ∈ cells, 0 ≤ z) (h1 : 1 ≤ m) (h2 : m ≤ 500000000) (hc0 : 0 ≤ c)
    (ha : S.hp a = some (.lst [.ref b, .int ((k + 1 : Nat) : Int)])) (hb : S.hp b = some (.lst (cells.map D.int))) (hat : c = 0 ∨ (0 ≤ at_ ∧ at_ < cells.length)) {bk ct nx : SD → HD → Prop} :
    rdTail { nx := nx, rt := drawn a b k m, bk := bk, ct := ct } [some (.ref a), some (.int m), some (.int c), some (.int at_), none] S := by
  unfold rdTail
  have hba : b ≠ a := fun e => hab e.symm
  walk_at "rdx"
  refine ⟨⟨by decide, by decide, by decide⟩, ?_⟩
  by_cases hc : (10 : Int) ^ (18 : Int).toNat ≤ c
  · have hc' : (1000000000000000000 : Int) ≤ c := hc
    rcases hat with e | ⟨h3, h4⟩
    · omega
    have hix : L2.ixN cells.length at_ = some at_.toNat := by unfold L2.ixN; rw [if_pos h3, if_pos h4]
    simp only [hc, decide_true, if_true]
    refine ⟨⟨by omega, by omega⟩, ?_⟩
    simp only [ha, hb, atI20, List.length_map, hix]
    refine ⟨by omega, c % m, cells.set at_.toNat (c / m), rfl, Int.emod_nonneg _ (by omega), Int.emod_lt_of_pos _ (by omega), ?_, ?_, ?_, ?_⟩
    · rw [HD.set_ne hab]; exact ha
    · rw [HD.set_same, List.map_set]
    · rw [List.length_set]; exact hl
    · intro z hz
      rcases List.mem_or_eq_of_mem_set hz with h | h
      · exact h0 z h
      · subst h; exact Int.ediv_nonneg (by omega) (by omega)
  · simp only [hc, decide_false, Bool.false_eq_true, if_false]
    simp only [ha, atI21]
    have e1 := Int.emod_nonneg c (b := 2147483563) (by decide)
    have e2 := Int.emod_lt_of_pos c (b := 2147483563) (by decide)
    refine ⟨by decide, ?_, ?_⟩
    · left
      decide
    refine ⟨⟨by decide, by decide, ?_⟩, by decide, by omega, _, cells, rfl, Int.emod_nonneg _ (by omega), Int.emod_lt_of_pos _ (by omega), ha, hb, hl, h0⟩
    omega
theorem drawOk : DrawOk rdDraw 5 := by
  intro S a b cells k m hab hk hl h0 h1 h2
  have hba : b ≠ a := fun e => hab e.symm
  have ha : (openD S a b cells k).hp a = some (.lst [.ref b, .int (k : Int)]) := if_pos rfl
  have hb : (openD S a b cells k).hp b = some (.lst (cells.map D.int)) := (if_neg hba).trans (if_pos rfl)
  show rdDraw { nx := fun _ _ => False, rt := drawn a b k m } (pad 5 [.ref a, .int m]) (openD S a b cells k)
  generalize openD S a b cells k = S0 at ha hb
  unfold rdDraw
  rw [show (sSeqD (sIfD (tTst (tBin (rCmpI fGe) (tSlot 2) (tBin rPowD (tCD (.int 10)) (tCD (.int 18))))) _ _) _) = rdTail from rfl]
  generalize hT : rdTail = T
  walk_at "rdx"
  simp only [ha, atI21]
  walk_at "rdx"
  simp only [ha, ixN21]
  walk_at "rdx"
  have ha' : (S0.set a (.lst [.ref b, .int ((k : Int) + 1)])).hp a = some (.lst [.ref b, .int ((k + 1 : Nat) : Int)]) := HD.set_same
  have hb' : (S0.set a (.lst [.ref b, .int ((k : Int) + 1)])).hp b = some (.lst (cells.map D.int)) := (HD.set_ne hba).trans hb
  generalize (S0.set a (.lst [.ref b, .int ((k : Int) + 1)])) = S1 at ha' hb'
  refine ⟨by decide, ?_⟩
  simp only [atI20, ha', hb', List.length_map]
  cases cells with
  | nil =>
    simp only [List.length_nil, Int.natCast_zero, Int.lt_irrefl, decide_false, Bool.false_eq_true, if_false]
    subst hT
    exact tail_ok hab hk hl h0 h1 h2 (Int.le_refl 0) ha' hb' (.inl rfl)
  | cons z0 zs =>
    have hpos : (0 : Int) < (((z0 :: zs).length : Nat) : Int) := by simp only [List.length_cons]; omega
    simp only [hpos, decide_true, if_true, atI21, true_and]
    walk_at "rdx"
    generalize hr : ((k : Int) + 1) % ((zs.length + 1 : Nat) : Int) = r
    have e1 : 0 ≤ r := by rw [← hr]; exact Int.emod_nonneg _ (by omega)
    have e2 : r < (((z0 :: zs).length : Nat) : Int) := by rw [← hr, List.length_cons]; exact Int.emod_lt_of_pos _ (by omega)
    obtain ⟨z, hz, hm⟩ := atI_nat (xs := z0 :: zs) e1 e2
    have hz' : L2.atI ((z0 :: zs).map D.int) r = some (.int z) := by
      unfold L2.atI at hz ⊢
      rw [List.length_map]
      cases q : L2.ixN (z0 :: zs).length r with
      | none => rw [q] at hz; cases hz
      | some j =>
        rw [q] at hz
        show ((z0 :: zs).map D.int)[j]? = _
        rw [List.getElem?_map]
        rw [show (z0 :: zs)[j]? = some z from hz]
        rfl
    rw [hz']
    subst hT
    exact tail_ok hab hk hl h0 h1 h2 (h0 z hm) ha' hb' (.inr ⟨e1, e2⟩)
theorem rngCut {xs : List Int} : cutD (xs.map D.int) none (some 63) = (xs.take 63).map D.int := by
  unfold cutD
  simp only [List.length_map, HT.sIx_none, List.drop_zero, Nat.sub_zero]
  rw [show ((some 63 : Option Int)) = some ((63 : Nat) : Int) from rfl, HT.sIx_nat, List.map_take]
  by_cases h : xs.length ≤ 63
  · rw [Nat.min_eq_right h, List.take_of_length_le (by simp), List.take_of_length_le (by simpa using h)]
  · rw [Nat.min_eq_left (by omega)]
theorem deckOk : DeckOk rdDeck 2 := by
  intro S ns hd
  unfold rdDeck
  walk_at "rdx"
  rw [rngCut]
  have h63 : (ns.take 63).length ≤ 63 := by rw [List.length_take]; omega
  generalize ns.take 63 = ms at h63
  intro hz
  refine ⟨hz, ?_⟩
  refine lcD_go (fun i acc S' => S' = S ∧ acc = (ms.take i).map fun z => D.int (if z < 0 then -z else z)) ⟨rfl, rfl⟩ (fun i d acc S' N hi ⟨e, ea⟩ k => ?_) fun acc S' ⟨e, ea⟩ => ?_
  · subst e
    rw [List.getElem?_map] at hi
    obtain ⟨z, hz, e2⟩ := Option.map_eq_some_iff.mp hi
    subst e2
    walk_at "rdx"
    refine k _ _ ⟨rfl, ?_⟩
    rw [ea, List.take_add_one, hz]
    simp
  · subst e ea
    refine ⟨trivial, fun b hb => ⟨by decide, fun a ha => ?_⟩⟩
    have hab : a ≠ b := fun e => by
      subst e
      rw [HD.set_same] at ha
      cases ha
    have hba : b ≠ a := fun e => hab e.symm
    rw [HD.set_ne hab] at ha
    refine ⟨a, b, ms.map fun z => if z < 0 then -z else z, rfl, hab, ha, hb, HD.set_same, ?_, ?_, ?_, ?_, hd⟩
    · rw [HD.set_ne hba, HD.set_same, List.take_of_length_le (by simp), List.map_map]
      rfl
    · simpa using h63
    · intro z hz
      obtain ⟨y, _, rfl⟩ := List.mem_map.mp hz
      by_cases h : y < 0
      · rw [if_pos h]; omega
      · rw [if_neg h]; omega
    · intro x o hx
      rw [HD.set_ne (fun e => by rw [e, ha] at hx; cases hx), HD.set_ne (fun e => by rw [e, hb] at hx; cases hx)]
      exact hx
theorem spOne_len (ds : List D) (S : HD) (Q : QD) (h : spOne ds S Q) : ds.length = 2 := by
  obtain ⟨x, xs, rfl, _⟩ := h
  rfl
theorem oneOk {E : EndsD} (ds : List D) (S : HD) (Q : QD) (h : spOne ds S Q) (hE : ∀ d S, Q d S → E.rt d S) : rdOne spDraw E (pad 2 ds) S := by
  obtain ⟨x, xs, rfl, hx, hne, hl, hc, q⟩ := h
  unfold rdOne
  have hpos : 1 ≤ xs.length := by cases xs with
    | nil => exact (hne rfl).elim
    | cons _ _ => simp
  have key : spDraw [.deck, .int xs.length] S fun d S1 => ∀ y, asSeq S1 x = some y → (match d with
    | .int i => (match L2.atI y i with
      | some d => E.rt d S1
      | none => False)
    | _ => False) := by
    refine ⟨⟨by omega, by omega, hc⟩, fun r h0 h1 => fun y hy => ?_⟩
    rw [asSeq_tick, hx] at hy
    cases hy
    obtain ⟨d, e, m⟩ := atI_nat h0 h1
    simp only [e]
    exact hE _ _ (q d m)
  have mono : ∀ (ds : List D) (S : HD) (Q Q' : QD), (∀ d S, Q d S → Q' d S) → spDraw ds S Q → spDraw ds S Q' := by
    intro ds S Q Q' i h
    unfold spDraw at h ⊢
    split at h
    · exact ⟨h.1, fun r h0 h1 => i _ _ (h.2 r h0 h1)⟩
    · exact h.elim
  cases x with
  | tup ys =>
    cases hx
    walk_at "rdx"
    refine mono _ _ _ _ (fun d S1 h => ?_) key
    have h := h _ rfl
    cases d <;> first | exact h | exact h.elim
  | lst ys =>
    cases hx
    walk_at "rdx"
    refine mono _ _ _ _ (fun d S1 h => ?_) key
    have h := h _ rfl
    cases d <;> first | exact h | exact h.elim
  | ref a =>
    have hx' := hx
    simp only [asSeq] at hx'
    split at hx'
    · rename_i ys e
      cases hx'
      walk_at "rdx"
      simp only [e]
      refine ⟨⟨by omega, by omega, hc⟩, fun r h0 h1 => ?_⟩
      obtain ⟨d, e2, m⟩ := atI_nat h0 h1
      simp only [HD.tick_hp, e, e2]
      exact hE _ _ (q d m)
    · cases hx'
  | _ => cases hx
end PD
end
section
/-! PD17: comparisons and classes of plain data. -/
namespace PD
open PySem PySem.Spec PyProof.Rows
theorem eqk_int {i j : Int} : eqk (.int i) (.int j) = true := by simp [eqk]
theorem eqd_int {i j : Int} : eqd (.int i) (.int j) = decide (i = j) := by
  unfold eqd
  simp only [py]
  first
  | rfl
  | (simp [PyData.eqv]; done)
  | (unfold PyData.eqv; simp)
theorem eqk_str {i j : Str} : eqk (.str i) (.str j) = true := by simp [eqk]
theorem eqd_str {i j : Str} : eqd (.str i) (.str j) = decide (i = j) := by
  unfold eqd
  simp only [py]
  first
  | rfl
  | (simp [PyData.eqv]; done)
  | (unfold PyData.eqv; simp)
theorem eqk_lst0 {xs : List D} : eqk (.lst xs) (.lst []) = true := by simp [eqk]
theorem eqd_lst0 {xs : List D} : eqd (.lst xs) (.lst []) = xs.isEmpty := by
  unfold eqd
  simp only [py, pyL]
  unfold PyData.eqv
  simp only [eqv_nilL, eqv_nilR, pyL_isEmpty]
theorem eqk_tup0 {xs : List D} : eqk (.tup xs) (.tup []) = true := by simp [eqk]
theorem eqd_tup0 {xs : List D} : eqd (.tup xs) (.tup []) = xs.isEmpty := by
  unfold eqd
  simp only [py, pyL]
  unfold PyData.eqv
  simp only [eqv_nilL, eqv_nilR, pyL_isEmpty]
theorem okRL_mem {x : D} : ∀ {xs : List D}, okRL xs = true → x ∈ xs → okR x = true
  | [], _, m => by cases m
  | y :: ys, h, m => by
    simp only [okRL, Bool.and_eq_true] at h
    rcases List.mem_cons.mp m with e | e
    · subst e; exact h.1
    · exact okRL_mem h.2 e
theorem okRL_of : ∀ {xs : List D}, (∀ x ∈ xs, okR x = true) → okRL xs = true
  | [], _ => rfl
  | y :: ys, h => by
    simp only [okRL, Bool.and_eq_true]
    exact ⟨h y List.mem_cons_self, okRL_of fun x m => h x (List.mem_cons_of_mem _ m)⟩
theorem depL_le {x : D} : ∀ {xs : List D}, x ∈ xs → dep x ≤ depL xs
  | [], m => by cases m
  | y :: ys, m => by
    simp only [depL]
    rcases List.mem_cons.mp m with e | e
    · subst e; omega
    · have := depL_le e; omega
theorem depL_of {n : Nat} : ∀ {xs : List D}, (∀ x ∈ xs, dep x ≤ n) → depL xs ≤ n
  | [], _ => Nat.zero_le _
  | y :: ys, h => by
    have h1 := h y List.mem_cons_self
    have h2 := depL_of (xs := ys) fun x m => h x (List.mem_cons_of_mem _ m)
    simp only [depL]
    omega
theorem szL_of {n : Nat} : ∀ {xs : List D}, (∀ x ∈ xs, sz x ≤ n) → szL xs ≤ xs.length * (n + 2)
  | [], _ => by simp [szL]
  | y :: ys, h => by
    have h1 := h y List.mem_cons_self
    have h2 := szL_of (xs := ys) fun x m => h x (List.mem_cons_of_mem _ m)
    simp only [szL, List.length_cons, Nat.add_mul, Nat.one_mul]
    omega
theorem szL_mem {x : D} : ∀ {xs : List D}, x ∈ xs → sz x ≤ szL xs
  | [], m => by cases m
  | y :: ys, m => by
    simp only [szL]
    rcases List.mem_cons.mp m with e | e
    · subst e; omega
    · have := szL_mem e; omega
theorem szL_app : ∀ {xs ys : List D}, szL (xs ++ ys) = szL xs + szL ys
  | [], ys => by simp [szL]
  | x :: xs, ys => by simp only [List.cons_append, szL, szL_app (xs := xs)]; omega
/-- what a def computes, nothing changed -/
def spFn (f : List D → Option D) : SpD := fun ds S Q => match f ds with
  | some r => Q r S
  | none => False
section
variable {S : HD} {t : Ty}
theorem isi_non : isiB S t .non = some false := by cases t <;> rfl
theorem isi_bl {b : Bool} : isiB S t (.bl b) = some (match t with | .int => true | .bool => true | _ => false) := rfl
theorem isi_int {b : Int} : isiB S t (.int b) = some (match t with | .int => true | _ => false) := rfl
theorem isi_str {b : Str} : isiB S t (.str b) = some (match t with | .str => true | _ => false) := rfl
theorem isi_tup {b : List D} : isiB S t (.tup b) = some (match t with | .tuple => true | _ => false) := rfl
theorem isi_lst {b : List D} : isiB S t (.lst b) = some (match t with | .list => true | _ => false) := rfl
theorem isi_dic {b : List (D × D)} : isiB S t (.dic b) = some (match t with | .dict => true | _ => false) := rfl
end
/-- a later state of a def's run: what was tracked stands, no more than n draws -/
structure Up (n : Nat) (S S' : HD) : Prop where
  hp : ∀ a o, S.hp a = some o → S'.hp a = some o
  c : S'.c ≤ S.c + n
  dk : S'.dk = S.dk
theorem Up.refl (S : HD) : Up 0 S S := ⟨fun _ _ h => h, Nat.le_refl _, rfl⟩
theorem Up.le {n : Nat} {S S' : HD} (h : Up n S S') : HLe (S.tick n) S' := ⟨h.hp, h.c, h.dk.symm⟩
theorem Up.mono {n m : Nat} {S S' : HD} (h : Up n S S') (l : n ≤ m) : Up m S S' := ⟨h.hp, by have := h.c; omega, h.dk⟩
theorem Up.tick {n k : Nat} {S S' : HD} (h : Up n S S') : Up (n + k) S (S'.tick k) := ⟨h.hp, by have := h.c; simp only [HD.tick_c]; omega, h.dk⟩
theorem Up.set {n : Nat} {S S' : HD} {p : Addr} {o : OD} (h : Up n S S') (hp : S.hp p = none) : Up n S (S'.set p o) :=
  ⟨fun a u e => by rw [HD.set_ne fun z => by rw [z, hp] at e; cases e]; exact h.hp a u e, h.c, h.dk⟩
theorem Up.none {n : Nat} {S S' : HD} {p : Addr} (h : Up n S S') (hp : S'.hp p = none) : S.hp p = none := by
  cases e : S.hp p with
  | none => rfl
  | some o => rw [h.hp p o e] at hp; cases hp
theorem Up.new {n : Nat} {S S' : HD} {p : Addr} {o : OD} (h : Up n S S') (hp : S'.hp p = Option.none) : Up n S (S'.set p o) := h.set (h.none hp)
theorem Up.fin {n : Nat} {S S' : HD} {Q : QD} {d : D} (h : Up n S S') (q : Q d (S.tick n)) : PD.fin Q d S' := fin.le h.le q
theorem Up.trans {n m : Nat} {S S1 S2 : HD} (a : Up n S S1) (b : Up m S1 S2) : Up (n + m) S S2 := ⟨fun x o h => b.hp x o (a.hp x o h), by have := a.c; have := b.c; omega, b.dk.trans a.dk⟩
/-- all ends of a def's body are these two -/
abbrev ends (Q : QD) : EndsD := { nx := fun _ S2 => fin Q .non S2, rt := fin Q, bk := fun _ _ => False, ct := fun _ _ => False }
end PD
end
section
/-! PD18: slices of plain data, sizes of parts. -/
namespace PD
open PySem PySem.Spec PyProof.Rows
/-- one statement, the rest held back -/
theorem seq_step {t u : TSD} {E : EndsD} {σ : SD} {S : HD} (h : ∀ N : SD → HD → Prop, (∀ σ S, u E σ S → N σ S) → t { E with nx := N } σ S) : sSeqD t u E σ S := h (u E) fun _ _ h => h
theorem szL_parts (xs : List D) (a : Nat) : szL (xs.take a) + szL (xs.drop a) = szL xs := by
  rw [← szL_app, List.take_append_drop]
theorem okRL_sub {xs ys : List D} (h1 : okRL xs = true) (h : ∀ y ∈ ys, y ∈ xs) : okRL ys = true := okRL_of fun x hx => okRL_mem h1 (h x hx)
theorem depL_sub {xs ys : List D} (h : ∀ y ∈ ys, y ∈ xs) : depL ys ≤ depL xs := depL_of fun x hx => depL_le (h x hx)
theorem szL_take (xs : List D) (a : Nat) : szL (xs.take a) ≤ szL xs := by have := szL_parts xs a; omega
theorem szL_drop (xs : List D) (a : Nat) : szL (xs.drop a) ≤ szL xs := by have := szL_parts xs a; omega
theorem atI_get {xs : List D} {a : Nat} (h : a < xs.length) : L2.atI xs (a : Int) = some xs[a] := by
  unfold L2.atI L2.ixN
  rw [if_pos (by omega), if_pos (by omega)]
  simp [h]
end PD
end
section
/-! PD19: enumerate and zip over lists, tuples and texts alike. -/
namespace PD
open PySem PySem.Spec PyProof.Rows L2
inductive SK where | lst | tup | str
def signs (z : Str) : List V := z.cps.toList.map fun c => .str ⟨#[c]⟩
/-- what is walked: v has the items xs -/
def SrcV (K : PySem.W.Frag) (H : Hp) : SK → V → List V → Prop
  | .lst, v, xs => ∃ a, v = .ref a ∧ SqL K H a xs
  | .tup, v, xs => ∃ a, v = .ref a ∧ SqT K H a xs
  | .str, v, xs => ∃ z, v = .str z ∧ xs = signs z
/-- its iterator stands at i -/
def ItSt : SK → Value → Addr → Nat → Heap → Prop
  | .lst, u, it, i, h => ∃ a, u = .ref a ∧ h.IsListIter it a i
  | .tup, u, it, i, h => ∃ a, u = .ref a ∧ h.IsTupleIter it a i
  | .str, u, it, i, h => ∃ z t, u = .str z t ∧ h.IsStrIter it (strIterType z) z t i
theorem ItSt.obj {k : SK} {u : Value} {it : Addr} {i : Nat} {h : Heap} (st : ItSt k u it i h) : ∃ o vs, h.get? it = some o ∧ o.data = .fields vs := by
  cases k with
  | lst => obtain ⟨_, _, o, e, _, d⟩ := st; exact ⟨o, _, e, d⟩
  | tup => obtain ⟨_, _, o, e, _, d⟩ := st; exact ⟨o, _, e, d⟩
  | str => obtain ⟨_, _, _, o, e, _, d⟩ := st; exact ⟨o, _, e, d⟩
theorem ItSt.move {k : SK} {u : Value} {it : Addr} {i : Nat} {h h' : Heap} (st : ItSt k u it i h) (hk : ∀ o, h.get? it = some o → h'.get? it = some o) : ItSt k u it i h' := by
  cases k with
  | lst => obtain ⟨a, q, o, e, r⟩ := st; exact ⟨a, q, o, hk o e, r⟩
  | tup => obtain ⟨a, q, o, e, r⟩ := st; exact ⟨a, q, o, hk o e, r⟩
  | str => obtain ⟨z, t, q, o, e, r⟩ := st; exact ⟨z, t, q, o, hk o e, r⟩
theorem vals_getR : ∀ {xs : List V} {us : List Value} {j : Nat} {y : Value}, Vals xs us → us[j]? = some y → ∃ x, xs[j]? = some x ∧ RelV x y
  | _, _, _, _, .nil, h => by simp at h
  | _, _, 0, y, .cons r _, h => by
    simp at h
    subst h
    exact ⟨_, rfl, r⟩
  | _, _, j + 1, y, .cons _ rs, h => by
    obtain ⟨x, h1, h2⟩ := vals_getR (j := j) rs (by simpa using h)
    exact ⟨x, by simpa using h1, h2⟩
def Below (u : Value) (N : Nat) : Prop := ∀ a, u = .ref a → a < N
section
variable {X : Cx} {pins : List (Addr × Obj)} {σ : L2.St} {H : Hp} {s : Shared}
theorem srcV_inj (I : Inv X pins σ H s) {k : SK} {v : V} {xs ys : List V} (h : SrcV X.K H k v xs) (h' : SrcV X.K H k v ys) : xs = ys := by
  cases k with
  | lst => obtain ⟨a, rfl, h⟩ := h; obtain ⟨b, e, h'⟩ := h'; cases e; exact I.list_inj h h'
  | tup => obtain ⟨a, rfl, h⟩ := h; obtain ⟨b, e, h'⟩ := h'; cases e; exact I.tuple_inj h h'
  | str => obtain ⟨a, rfl, rfl⟩ := h; obtain ⟨b, e, rfl⟩ := h'; cases e; rfl
theorem signs_get {z : Str} {j c : Nat} (h : z.cps[j]? = some c) : (signs z)[j]? = some (.str ⟨#[c]⟩) := by
  unfold signs
  rw [List.getElem?_map, Array.getElem?_toList, h]
  rfl
theorem signs_len (z : Str) : (signs z).length = z.cps.size := by simp [signs]
theorem srcV_draws (I : Inv X pins σ H s) {A : Around} (hh : A.handled = none) {k : SK} {v : V} {xs : List V} {u : Value} {it : Addr} {i : Nat} (hq : SrcV X.K H k v xs) (hv : RelV v u) (hit : ItSt k u it i s.heap) :
    ∃ (rest : List Addr) (Pp : Nat → Value → Prop) (St : Nat → Heap → Prop), Draws X.prog X.w A it (it :: rest) xs.length Pp St ∧ St i s.heap ∧ (∀ j y, Pp j y → ∃ x, xs[j]? = some x ∧ RelV x y) ∧ (∀ j h, St j h → ItSt k u it j h) ∧ ∀ b ∈ rest, u = .ref b := by
  cases k with
  | lst =>
    obtain ⟨a, rfl, hq⟩ := hq
    obtain rfl : u = Value.ref a := hv
    obtain ⟨its, r, p, z⟩ := I.list hq
    obtain ⟨_, e, hit⟩ := hit
    cases e
    have ne : a ≠ it := fun e => by
      obtain ⟨o, n, e1, _, _, d1⟩ := id p
      obtain ⟨o2, e2, _, d2⟩ := hit
      rw [e, e2] at e1
      cases e1
      rw [d1] at d2
      cases d2
    have en : its.toArray.size = xs.length := by rw [List.size_toArray]; exact r.length.symm
    have D := Draws.list (prog := X.prog) (w := X.w) hh it a ne its.toArray
    rw [en] at D
    exact ⟨[a], _, _, D, ⟨hit, p.isList⟩, fun j y hy => vals_getR r (by simpa using hy), fun j h st => ⟨a, rfl, st.1⟩, fun b hb => by rw [List.mem_singleton.mp hb]⟩
  | tup =>
    obtain ⟨a, rfl, hq⟩ := hq
    obtain rfl : u = Value.ref a := hv
    obtain ⟨its, r, p, z⟩ := I.tuple hq
    obtain ⟨_, e, hit⟩ := hit
    cases e
    have ne : a ≠ it := fun e => by
      obtain ⟨o, e1, _, n, d1⟩ := id p
      obtain ⟨o2, e2, _, d2⟩ := hit
      rw [e, e2] at e1
      cases e1
      rw [d1] at d2
      cases d2
    have en : its.toArray.size = xs.length := by rw [List.size_toArray]; exact r.length.symm
    have D := Draws.tuple (prog := X.prog) (w := X.w) hh it a ne its.toArray
    rw [en] at D
    exact ⟨[a], _, _, D, ⟨hit, p⟩, fun j y hy => vals_getR r (by simpa using hy), fun j h st => ⟨a, rfl, st.1⟩, fun b hb => by rw [List.mem_singleton.mp hb]⟩
  | str =>
    obtain ⟨z, rfl, rfl⟩ := hq
    obtain ⟨t, rfl⟩ := hv
    obtain ⟨_, _, e, hit⟩ := hit
    cases e
    have D := Draws.text (prog := X.prog) (w := X.w) hh it z t
    rw [← signs_len] at D
    exact ⟨[], _, _, D, hit, fun j y ⟨c, u, hc, e⟩ => ⟨_, signs_get hc, by rw [e]; exact ⟨u, rfl⟩⟩, fun j h st => ⟨z, t, rfl, st⟩, fun b hb => (by cases hb)⟩
/-- at the end -/
theorem srcV_end (I : Inv X pins σ H s) {A : Around} (hh : A.handled = none) {k : SK} {v : V} {xs : List V} {u : Value} {it : Addr} {i : Nat} (hq : SrcV X.K H k v xs) (hv : RelV v u) (hit : ItSt k u it i s.heap) (hi : xs.length ≤ i) :
    ∃ (rest : List Addr) (Pp : Nat → Value → Prop) (St : Nat → Heap → Prop), Draws X.prog X.w A it (it :: rest) i Pp St ∧ St i s.heap ∧ ∀ b ∈ rest, u = .ref b := by
  have mk : ∀ (rest : List Addr) (S0 : Heap → Prop), S0 s.heap → (∀ h, S0 h → ∃ o, h.get? it = some o) → (∀ h h', S0 h → (∀ b ∈ it :: rest, ∀ o, h.get? b = some o → h'.get? b = some o) → S0 h') → (∀ b ∈ rest, u = .ref b) →
      (∀ (s : Shared) (Q : Value → Shared → Prop) (E : Value → Shared → Prop), S0 s.heap → (∀ h' e, Heap.ExtBut it s.heap h' → (∃ o, h'.get? e = some o ∧ o.cls = .type "StopIteration") → E (.ref e) { s with heap := h' }) → wpAny (model X.prog X.w) A (Builtin.SmallTypes.nextOf (.ref it)) Q E s) →
      ∃ (rest : List Addr) (Pp : Nat → Value → Prop) (St : Nat → Heap → Prop), Draws X.prog X.w A it (it :: rest) i Pp St ∧ St i s.heap ∧ ∀ b ∈ rest, u = .ref b := fun rest S0 h0 h1 h2 h3 h4 =>
    ⟨rest, fun _ _ => False, fun j h => j = i ∧ S0 h, { live := fun j h st => h1 h st.2, frame := fun j h h' st kp => ⟨st.1, h2 h h' st.2 kp⟩, item := fun j s Q E hj st _ => absurd st.1 (Nat.ne_of_lt hj), done := fun s Q E st hE => h4 s Q E st.2 hE }, ⟨rfl, h0⟩, h3⟩
  cases k with
  | lst =>
    obtain ⟨a, rfl, hq⟩ := hq
    obtain rfl : u = Value.ref a := hv
    obtain ⟨its, r, p, z⟩ := I.list hq
    obtain ⟨_, e, hit⟩ := hit
    cases e
    have := r.length
    exact mk [a] (fun h => h.IsListIter it a i ∧ h.IsList a its.toArray) ⟨hit, p.isList⟩ (fun h st => let ⟨o, ho, _⟩ := st.1; ⟨o, ho⟩) (fun h h' st kp => ⟨st.1.at fun o e => kp it (by simp) o e, st.2.at fun o e => kp a (by simp) o e⟩) (fun b hb => by rw [List.mem_singleton.mp hb])
      fun s Q E st hE => wpAny_nextOf_list_end hh st.1 st.2 (by simp; omega) hE
  | tup =>
    obtain ⟨a, rfl, hq⟩ := hq
    obtain rfl : u = Value.ref a := hv
    obtain ⟨its, r, p, z⟩ := I.tuple hq
    obtain ⟨_, e, hit⟩ := hit
    cases e
    have := r.length
    exact mk [a] (fun h => h.IsTupleIter it a i ∧ h.IsTuple a its.toArray) ⟨hit, p⟩ (fun h st => let ⟨o, ho, _⟩ := st.1; ⟨o, ho⟩) (fun h h' st kp => ⟨st.1.at fun o e => kp it (by simp) o e, st.2.at fun o e => kp a (by simp) o e⟩) (fun b hb => by rw [List.mem_singleton.mp hb])
      fun s Q E st hE => wpAny_nextOf_tuple_end hh st.1 st.2 (by simp; omega) hE
  | str =>
    obtain ⟨z, rfl, rfl⟩ := hq
    obtain ⟨t, rfl⟩ := hv
    obtain ⟨_, _, e, hit⟩ := hit
    cases e
    rw [signs_len] at hi
    refine mk [] (fun h => h.IsStrIter it (strIterType z) z t i) hit (fun h st => let ⟨o, ho, _⟩ := st; ⟨o, ho⟩) (fun h h' st kp => let ⟨o, ho, r⟩ := st; ⟨o, kp it (by simp) o ho, r⟩) (fun b hb => (by cases hb)) fun s Q E st hE => ?_
    have hx : z.cps[i]? = none := Array.getElem?_eq_none hi
    cases ha : z.cps.all (· < 128)
    · simp only [strIterType, ha, Bool.false_eq_true, if_false] at st
      exact wpAny_nextOf_wide_end hh st hx hE
    · simp only [strIterType, ha, if_true] at st
      exact wpAny_nextOf_ascii_end hh st hx hE
/-- the iterator is made -/
theorem srcV_begins (I : Inv X pins σ H s) {k : SK} {v : V} {xs : List V} {u : Value} (hq : SrcV X.K H k v xs) (hv : RelV v u) :
    ∃ (o : Obj) (Hp : Heap → Prop), Begins u o Hp ∧ Hp s.heap ∧ Below u s.heap.objs.size ∧ ∀ (h : Heap) (it : Addr), h.get? it = some o → ItSt k u it 0 h := by
  cases k with
  | lst =>
    obtain ⟨a, rfl, hq⟩ := hq
    obtain rfl : u = Value.ref a := hv
    obtain ⟨its, r, p, z⟩ := I.list hq
    exact ⟨_, _, begins_list a its.toArray, p.isList, fun b e => (by cases e; exact p.lt), fun h it e => ⟨a, rfl, _, e, rfl, rfl⟩⟩
  | tup =>
    obtain ⟨a, rfl, hq⟩ := hq
    obtain rfl : u = Value.ref a := hv
    obtain ⟨its, r, p, z⟩ := I.tuple hq
    exact ⟨_, _, begins_tuple a its.toArray, p, fun b e => (by cases e; obtain ⟨o, e1, _⟩ := p; exact Heap.lt_size e1), fun h it e => ⟨a, rfl, _, e, rfl, rfl⟩⟩
  | str =>
    obtain ⟨z, rfl, rfl⟩ := hq
    obtain ⟨t, rfl⟩ := hv
    exact ⟨_, _, begins_text z t, trivial, fun b e => (by cases e), fun h it e => ⟨z, t, rfl, _, e, rfl, rfl⟩⟩
end
/-! ### enumerate -/
def IteA (K : PySem.W.Frag) (k : SK) (v : V) : It :=
  ⟨fun i H => ∃ (xs : List V) (x : V), SrcV K H k v xs ∧ xs[i]? = some x, fun i H y H' => ∃ T x, y = .ref T ∧ H T = none ∧ H' = upd H T (.tup [.int (i : Nat), x]) ∧ ∀ xs, SrcV K H k v xs → xs[i]? = some x, fun i H => ∃ xs : List V, SrcV K H k v xs ∧ xs.length ≤ i⟩
theorem turn_enumA {P : Program} {w : World} {K : PySem.W.Frag} {elts : List Expr} {kk : Nat} {tpos : Pos} (k : SK) (v : V) (u : Value) (hv : RelV v u) (N : Nat) (hN : Below u N) :
    Turn P w K (.Tuple elts kk tpos) (IteA K k v) [N + 1, N] (N + 1) (fun i h => (∃ old, IsEnum h (N + 1) N ((i : Nat) : Int) old) ∧ ItSt k u N i h) where
  mem := by simp
  obj := fun i h st b hb => by
    obtain ⟨⟨old, he⟩, hi⟩ := st
    obtain ⟨o, vs, ho, hd⟩ := hi.obj
    have e' : b = N + 1 ∨ b = N := by simpa using hb
    rcases e' with z | z
    · rw [z]; exact ⟨_, he, fun v q => nomatch q⟩
    · rw [z]; exact ⟨o, ho, fun v q => by rw [hd] at q; cases q⟩
  keep := fun i h h' st kp => let ⟨⟨old, he⟩, hi⟩ := st; ⟨⟨old, kp (N + 1) (by simp) _ he⟩, hi.move fun o q => kp N (by simp) o q⟩
  item := by
    intro X hP hw hK hc i pins s σ H E I hf st hg
    subst hP hw hK
    obtain ⟨⟨old, he⟩, hit⟩ := st
    obtain ⟨xs, x, hq, hx⟩ := hg
    have hne : (N + 1 : Nat) ≠ N := Nat.succ_ne_self N
    obtain ⟨rest, Pp, St, D, hst, hPp, hnx, hr⟩ := srcV_draws I (A := X.A.in1) (I.ok.hd hc) hq hv hit
    have hef : (N + 1 : Nat) ∉ N :: rest := fun hm => by
      rcases List.mem_cons.mp hm with e | hm
      · exact hne e
      · have := hN _ (hr _ hm)
        exact absurd this (by show ¬ ((N + 1 : Nat) < N); omega)
    have hil : i < xs.length := (List.getElem?_eq_some_iff.mp hx).1
    have hel : (N + 1 : Nat) < s.heap.objs.size := Heap.lt_size he
    have hNl : (N : Nat) < s.heap.objs.size := Nat.lt_of_succ_lt hel
    refine wpAny_pyNext_enum_itemD D he hst hil hne hef fun y h' tk hP1 ho hst' hT hsz hk => ?_
    obtain ⟨x', hx', ry⟩ := hPp i y hP1
    rw [hx] at hx'
    cases hx'
    refine ⟨_, rfl, wpAny_letOwnedTupleGo_enum (s := { s with heap := h', toks := tk + 1 }) ho fun h'' he' sb => ?_⟩
    have hT2 : h''.get? s.heap.objs.size = some { cls := .type "tuple", data := .seq #[.int i tk, y] } := (sb.2 _ (Nat.ne_of_gt hel)).trans hT
    have new : ObjOk X.prog X.w (upd H s.heap.objs.size (.tup [.int (i : Nat), x])) h'' s.heap.objs.size (.tup [.int (i : Nat), x]) :=
      ⟨by show 2 ≤ sizeLine; decide, [.int i tk, y], .cons ⟨_, rfl⟩ (.cons ry .nil), ⟨_, hT2, rfl, _, rfl⟩⟩
    have I1 : Inv X pins σ (upd H s.heap.objs.size (.tup [.int (i : Nat), x])) { s with heap := h'', toks := tk + 1 } :=
      I.turnedNew (ch := [N + 1, N]) (fun b ob hb q => (sb.2 b (fun z => hb (by simp [z]))).trans (hk b ob (fun z => hb (by simp [z])) (fun z => hb (by simp [z])) q)) hf (Nat.le_refl _) new
    refine ⟨.ref s.heap.objs.size, _, I1, rfl, ⟨_, x, rfl, I.hok.fresh (Nat.le_refl _), rfl, fun ys hy => by rw [srcV_inj I hy hq]; exact hx⟩, ⟨⟨y, ?_⟩, (hnx _ _ hst').move fun o q => (sb.2 N (Ne.symm hne)).trans q⟩, fun b hb => ?_⟩
    · rw [show ((i + 1 : Nat) : Int) = (i : Int) + 1 from rfl]
      exact he'
    · have e' : b = N + 1 ∨ b = N := by simpa using hb
      have hb' : b < s.heap.objs.size := e'.elim (fun z => by rw [z]; exact hel) (fun z => by rw [z]; exact hNl)
      rw [upd_ne (Nat.ne_of_lt hb')]
      exact (hf b hb).1
  done := by
    intro X hP hw hK hc i pins s σ H E I hf st hg
    subst hP hw hK
    obtain ⟨⟨old, he⟩, hit⟩ := st
    obtain ⟨xs, hq, hx⟩ := hg
    obtain ⟨f0, f1, f2, f3, f4, f5⟩ := hf N (by simp)
    obtain ⟨rest, Pp, St, D, hst, hr⟩ := srcV_end I (A := X.A.in1) (I.ok.hd hc) hq hv hit hx
    exact wpAny_pyNext_enum_endD D he hst fun h' eb => ⟨rfl, I.turned (t' := s.toks) (fun b o hb q => eb b o hb q) f0 f1 f3 f4 f5⟩
  self := fun A i s Q E st h => let ⟨⟨_, he⟩, _⟩ := st; wpAny_pyIter_enum he h
theorem meets_enum1 {v : Value} {o : Obj} {H : Heap → Prop} (B : Begins v o H) :
    Meets (Builtin.«enumerate.__new__» ⟨[.type "enumerate", v], []⟩) (fun _ R s => H s.heap ∧ R (.ok (.ret (.ref (s.heap.push o).objs.size))) { s with heap := (s.heap.push o).push { cls := .type "enumerate", data := .fields #[.none, .bool false, .ref s.heap.objs.size, rawInt 0, .none, .none] } }) :=
  .of_wp fun prog w A R s h => by
    obtain ⟨hp, g, d, tk, os⟩ := s
    obtain ⟨h1, h⟩ := h
    have hsub := sub_enumerate
    have q1 : ∀ {A' : Around} {E : Value → Shared → Prop} {Q : Value → Shared → Prop}, Q (.ref hp.objs.size) ⟨hp.push o, g, d, tk, os⟩ → wpAny (model prog w) A' (pyIter v) Q E ⟨hp, g, d, tk, os⟩ := fun q => B.iter prog w _ _ ⟨hp, g, d, tk, os⟩ _ h1 q
    wp_walk using q1
    refine wpAny_stack_any fun st => wpAny_pure ?_
    split
    · rename_i c _ _ _ _ _
      cases (c == Value.type "enumerate") <;> (wp_walk using q1; exact ⟨_, rfl, h⟩)
    · wp_walk using q1
      exact ⟨_, rfl, h⟩
section
variable {prog : Program} {w : World} {A : Around} {E : Value → Shared → Prop} {s : Shared}
theorem enum_begins1 {v : Value} {o : Obj} {H : Heap → Prop} {Q : Value → Shared → Prop} (B : Begins v o H) (h1 : H s.heap)
    (h : ∀ h', IsEnum h' (s.heap.objs.size + 1) s.heap.objs.size 0 .none → h'.get? s.heap.objs.size = some o → (∀ b o, s.heap.get? b = some o → h'.get? b = some o) → Q (.ref (s.heap.objs.size + 1)) { s with heap := h' }) :
    wpAny (model prog w) A (call (.type "enumerate") [v]) Q E s := by
  refine callType_new F.called_enumerate (by decide) (F.typeCall_enumerate_1 _) (F.newCall_enumerate_1 _) (fun obj => F.args_object_init_2 obj _) F.entry_enumerate_new (meets_enum1 B) ⟨h1, ?_⟩
  have hz : (s.heap.push o).objs.size = s.heap.objs.size + 1 := Heap.size_push ..
  have he := Heap.get?_push_size (s.heap.push o) (o := { cls := .type "enumerate", data := .fields #[.none, .bool false, .ref s.heap.objs.size, rawInt 0, .none, .none] }) rfl
  show _ ∧ _
  rw [hz] at he ⊢
  exact ⟨⟨_, he, rfl⟩, h _ he (Heap.get?_push_of_some _ (Heap.get?_push_size _ B.free)) fun b o x => Heap.get?_push_of_some _ (Heap.get?_push_of_some _ x)⟩
end
def iEnumA (K : PySem.W.Frag) (ta : TA) : TI := fun σ H R => ta σ H fun vs H1 => ∃ v k xs, vs = [v] ∧ SrcV K H1 k v xs ∧ R (IteA K k v) H1
theorem pi_enumA {X : Cx} {e : Expr} {ta : TA} {p pos tpos : Pos} {elts : List Expr} {kk : Nat} (hg : Gl X "enumerate") (hm : X.mg "enumerate" = none) (ha : PA X [e] ta) (hs : starEach [e] X.env = [(false, eval e X.env)] := by rfl) :
    PI X (.Tuple elts kk tpos) (.Call (.Name "enumerate" p) [e] [] pos) (iEnumA X.K ta) := by
  refine ⟨fun pins s σ H R I h => Call_ (ld_blt I hg hm boot_enumerate (PyProof.Rows.callWith_type1 (thn (ha.run pos pins s σ H _ I h) fun us s1 ⟨vs, H1, I1, r1, v, k, xs, ex, hq, q⟩ => ?_) hs rfl))⟩
  subst ex
  cases r1 with
  | @cons _ u _ _ r rr =>
    cases rr
    obtain ⟨o, Hq, B, b1, bl, bi⟩ := srcV_begins I1 hq r
    refine enum_begins1 B b1 fun h' he hit hk => wpAny_pyIter_enum he ?_
    refine ⟨s1.heap.objs.size + 1, [s1.heap.objs.size + 1, s1.heap.objs.size], _, _, H1, rfl, I1.kept (t' := s1.toks) hk, turn_enumA k v u r s1.heap.objs.size bl, ⟨⟨.none, he⟩, bi _ _ hit⟩, fun b hb => ?_, q⟩
    have e' : b = s1.heap.objs.size + 1 ∨ b = s1.heap.objs.size := by simpa using hb
    have hle : s1.heap.objs.size ≤ b := e'.elim (fun z => by rw [z]; exact Nat.le_add_right _ _) fun z => by rw [z]; exact Nat.le_refl _
    exact I1.fpOk hle (I1.hok.fresh hle)
/-! ### zip -/
def ItzA (K : PySem.W.Frag) (k1 k2 : SK) (v1 v2 : V) : It :=
  ⟨fun i H => ∃ (xs ys : List V) (x y : V), SrcV K H k1 v1 xs ∧ SrcV K H k2 v2 ys ∧ xs[i]? = some x ∧ ys[i]? = some y,
    fun i H v H' => ∃ T x y, v = .ref T ∧ H T = none ∧ H' = upd H T (.tup [x, y]) ∧ (∀ xs, SrcV K H k1 v1 xs → xs[i]? = some x) ∧ ∀ ys, SrcV K H k2 v2 ys → ys[i]? = some y,
    fun i H => ∃ xs ys : List V, SrcV K H k1 v1 xs ∧ SrcV K H k2 v2 ys ∧ (xs.length = i ∧ i ≤ ys.length ∨ ys.length = i ∧ i ≤ xs.length)⟩
theorem turn_zipX {P : Program} {w : World} {K : PySem.W.Frag} {elts : List Expr} {kk : Nat} {tpos : Pos} (k1 k2 : SK) (v1 v2 : V) (u1 u2 : Value) (hv1 : RelV v1 u1) (hv2 : RelV v2 u2) (N : Nat) (hN1 : Below u1 N) (hN2 : Below u2 N) :
    Turn P w K (.Tuple elts kk tpos) (ItzA K k1 k2 v1 v2) [N + 4, N + 2, N + 3, N, N + 1] (N + 4)
      (fun i h => IsZip h (N + 4) (N + 2) (N + 3) .none ∧ IsTupOf2 h (N + 2) (.ref N) (.ref (N + 1)) ∧ (∃ a b, IsTupOf2 h (N + 3) a b) ∧ ItSt k1 u1 N i h ∧ ItSt k2 u2 (N + 1) i h) where
  mem := by simp
  obj := fun i h st c hc => by
    obtain ⟨hz, hTI, ⟨x, y, hTO⟩, h1, h2⟩ := st
    obtain ⟨o1, vs1, e1, d1⟩ := h1.obj
    obtain ⟨o2, vs2, e2, d2⟩ := h2.obj
    have e' : c = N + 4 ∨ c = N + 2 ∨ c = N + 3 ∨ c = N ∨ c = N + 1 := by simpa using hc
    rcases e' with q | q | q | q | q <;> rw [q]
    · exact ⟨_, hz, fun v q => nomatch q⟩
    · exact ⟨_, hTI, fun v q => nomatch q⟩
    · exact ⟨_, hTO, fun v q => nomatch q⟩
    · exact ⟨o1, e1, fun v q => by rw [d1] at q; cases q⟩
    · exact ⟨o2, e2, fun v q => by rw [d2] at q; cases q⟩
  keep := fun i h h' st kp => by
    obtain ⟨hz, hTI, ⟨x, y, hTO⟩, h1, h2⟩ := st
    exact ⟨kp _ (by simp) _ hz, kp _ (by simp) _ hTI, ⟨x, y, kp _ (by simp) _ hTO⟩, h1.move fun o q => kp _ (by simp) o q, h2.move fun o q => kp _ (by simp) o q⟩
  item := by
    intro X hP hw hK hc i pins s σ H E I hf st hg
    subst hP hw hK
    obtain ⟨hz, hTI, ⟨x0, y0, hTO⟩, h1, h2⟩ := st
    obtain ⟨xs, ys, x, y, hqx, hqy, hx, hy⟩ := hg
    obtain ⟨r1, P1, St1, D1, s1, p1, n1, b1⟩ := srcV_draws I (A := X.A.in1) (I.ok.hd hc) hqx hv1 h1
    obtain ⟨r2, P2, St2, D2, s2, p2, n2, b2⟩ := srcV_draws I (A := X.A.in1) (I.ok.hd hc) hqy hv2 h2
    have S := zip_sep2 (N := N) (fp1 := r1) (fp2 := r2) (fun b hb => hN1 b (b1 b hb)) (fun b hb => hN2 b (b2 b hb))
    have hzl : (N + 4 : Nat) < s.heap.objs.size := Heap.lt_size hz
    refine wpAny_pyNext_zipD2_item S D1 D2 hz hTI hTO s1 s2 (List.getElem?_eq_some_iff.mp hx).1 (List.getElem?_eq_some_iff.mp hy).1 fun u u' h' tk y1 y2 z' TO' h1' h2' hT hsz hk => ?_
    obtain ⟨x', e1, ru⟩ := p1 i u y1
    obtain ⟨y', e2, ru2⟩ := p2 i u' y2
    rw [hx] at e1
    rw [hy] at e2
    cases e1
    cases e2
    refine ⟨_, rfl, wpAny_letOwnedTupleGo_zip (s := { s with heap := h', toks := tk }) z' fun h'' z'' sb => ?_⟩
    have hT2 : h''.get? s.heap.objs.size = some { cls := .type "tuple", data := .seq #[u, u'] } := (sb.2 _ (Nat.ne_of_gt hzl)).trans hT
    have new : ObjOk X.prog X.w (upd H s.heap.objs.size (.tup [x, y])) h'' s.heap.objs.size (.tup [x, y]) := ⟨by show 2 ≤ sizeLine; decide, [u, u'], .cons ru (.cons ru2 .nil), ⟨_, hT2, rfl, _, rfl⟩⟩
    have I1 : Inv X pins σ (upd H s.heap.objs.size (.tup [x, y])) { s with heap := h'', toks := tk } :=
      I.turnedNew (ch := [N + 4, N + 2, N + 3, N, N + 1]) (fun c o hb q => (sb.2 c (fun q' => hb (by simp [q']))).trans (hk c o (fun q' => hb (by simp [q'])) (fun q' => hb (by simp [q'])) (fun q' => hb (by simp [q'])) (fun q' => hb (by simp [q'])) q)) hf (Nat.le_refl _) new
    have nz : ∀ c : Nat, c ≠ N + 4 → ∀ o, h'.get? c = some o → h''.get? c = some o := fun c hc o q => (sb.2 c hc).trans q
    refine ⟨.ref s.heap.objs.size, _, I1, rfl, ⟨_, x, y, rfl, I.hok.fresh (Nat.le_refl _), rfl, fun l hl => by rw [srcV_inj I hl hqx]; exact hx, fun l hl => by rw [srcV_inj I hl hqy]; exact hy⟩, ⟨z'', ?_, ⟨u, u', ?_⟩, ?_, ?_⟩, fun c hcm => ?_⟩
    · exact nz (N + 2) (by omega) _ (hk _ _ S.TIz S.TITO S.TIi1 S.TIi2 hTI)
    · exact nz (N + 3) (by omega) _ TO'
    · exact (n1 _ _ h1').move fun o q => nz N (by omega) o q
    · exact (n2 _ _ h2').move fun o q => nz (N + 1) (by omega) o q
    · have hlt : c < s.heap.objs.size := by
        have e' : c = N + 4 ∨ c = N + 2 ∨ c = N + 3 ∨ c = N ∨ c = N + 1 := by simpa using hcm
        have : ∀ m : Nat, m ≤ N + 4 → m < s.heap.objs.size := fun m hm => by omega
        rcases e' with q | q | q | q | q <;> (rw [q]; exact this _ (by omega))
      rw [upd_ne (Nat.ne_of_lt hlt)]
      exact (hf c hcm).1
  done := by
    intro X hP hw hK hc i pins s σ H E I hf st hg
    subst hP hw hK
    obtain ⟨hz, hTI, ⟨x0, y0, hTO⟩, h1, h2⟩ := st
    obtain ⟨xs, ys, hqx, hqy, hend⟩ := hg
    obtain ⟨r1, P1, St1, D1, s1, p1, n1, b1⟩ := srcV_draws I (A := X.A.in1) (I.ok.hd hc) hqx hv1 h1
    obtain ⟨r2, P2, St2, D2, s2, p2, n2, b2⟩ := srcV_draws I (A := X.A.in1) (I.ok.hd hc) hqy hv2 h2
    have S := zip_sep2 (N := N) (fp1 := r1) (fp2 := r2) (fun b hb => hN1 b (b1 b hb)) (fun b hb => hN2 b (b2 b hb))
    exact wpAny_pyNext_zipD2_end S D1 D2 hz hTI hTO s1 s2 (by omega) (by omega) (by omega) fun h' tk hk => ⟨rfl, I.turnedL (t' := tk) (ch := [N + 4, N + 2, N + 3, N, N + 1]) (fun c o hb q =>
      hk c o (fun q' => hb (by simp [q'])) (fun q' => hb (by simp [q'])) (fun q' => hb (by simp [q'])) (fun q' => hb (by simp [q'])) q) hf⟩
  self := fun A i s Q E st h => wpAny_pyIter_zip st.1 h
def iZipX (K : PySem.W.Frag) (ta : TA) : TI := fun σ H R => ta σ H fun vs H1 => ∃ v1 v2 k1 k2 xs ys, vs = [v1, v2] ∧ SrcV K H1 k1 v1 xs ∧ SrcV K H1 k2 v2 ys ∧ R (ItzA K k1 k2 v1 v2) H1
theorem pi_zipX {X : Cx} {e e2 : Expr} {ta : TA} {p pos tpos : Pos} {elts : List Expr} {kk : Nat} (hg : Gl X "zip") (hm : X.mg "zip" = none) (ha : PA X [e, e2] ta)
    (hs : starEach [e, e2] X.env = (false, eval e X.env) :: starEach [e2] X.env := by rfl) (hpl : (backTo pos (starEach [e2] X.env)).any (·.1) = false := by rfl) :
    PI X (.Tuple elts kk tpos) (.Call (.Name "zip" p) [e, e2] [] pos) (iZipX X.K ta) := by
  refine ⟨fun pins s σ H R I h => Call_ (ld_blt I hg hm PyProof.Rows.boot_zip (PyProof.Rows.callWith_type1 (thn (ha.run pos pins s σ H _ I h) fun us s1 ⟨vs, H1, I1, r1, v1, v2, k1, k2, xs, ys, ex, hqx, hqy, q⟩ => ?_) hs hpl))⟩
  subst ex
  cases r1 with
  | @cons _ u1 _ _ ru1 rr =>
    cases rr with
    | @cons _ u2 _ _ ru2 rr =>
      cases rr
      obtain ⟨o1, Hq1, B1, b1, bl1, bi1⟩ := srcV_begins I1 hqx ru1
      obtain ⟨o2, Hq2, B2, b2, bl2, bi2⟩ := srcV_begins I1 hqy ru2
      refine zip_begins2 B1 B2 b1 b2 fun h' hz hTI hTO g1 g2 hsz hk => wpAny_pyIter_zip hz ?_
      refine ⟨s1.heap.objs.size + 4, _, _, _, H1, rfl, I1.kept (t' := s1.toks) hk, turn_zipX k1 k2 v1 v2 u1 u2 ru1 ru2 s1.heap.objs.size bl1 bl2, ⟨hz, hTI, ⟨_, _, hTO⟩, bi1 _ _ g1, bi2 _ _ g2⟩, fun c hcm => ?_, q⟩
      have e' : c = s1.heap.objs.size + 4 ∨ c = s1.heap.objs.size + 2 ∨ c = s1.heap.objs.size + 3 ∨ c = s1.heap.objs.size ∨ c = s1.heap.objs.size + 1 := by simpa using hcm
      have hle : s1.heap.objs.size ≤ c := by rcases e' with z | z | z | z | z <;> (rw [z]; first | exact Nat.le_add_right _ _ | exact Nat.le_refl _)
      exact I1.fpOk hle (I1.hok.fresh hle)
end PD
end
section
/-! PD20: what is walked, over deep values: any sequence, enumerate, zip. -/
namespace PD
open PySem PySem.Spec PyProof.Rows L2
def signsD (z : Str) : List D := z.cps.toList.map fun c => .str ⟨#[c]⟩
theorem rds_signs {K : PySem.W.Frag} {G : Addr → Prop} {S : HD} {H : Hp} (z : Str) : RDs K G S H (signsD z) (signs z) := by
  unfold signsD signs
  generalize z.cps.toList = cs
  induction cs with
  | nil => exact .nil
  | cons c cs ih => exact .cons (.str _) ih
/-- the items, and what keeps them -/
def srcD (S : HD) : D → Option (List D × (HD → Prop))
  | .tup xs => some (xs, fun _ => True)
  | .lst xs => some (xs, fun _ => True)
  | .ref a => match S.hp a with
    | some (.lst xs) => some (xs, fun S => S.hp a = some (.lst xs))
    | _ => none
  | .str z => some (signsD z, fun _ => True)
  | _ => none
def skD : D → SK
  | .tup _ => .tup
  | .str _ => .str
  | _ => .lst
theorem srcD_at {K : PySem.W.Frag} {S0 : HD} {d : D} {v : V} {xs : List D} {keep : HD → Prop} (e : srcD S0 d = some (xs, keep)) {G : Addr → Prop} {S : HD} {H : Hp} (rh : RH K G S H) (q : RD K G S H d v) (k : keep S) : ∃ vs, SrcV K H (skD d) v vs ∧ RDs K G S H xs vs := by
  cases q with
  | tup h r => cases e; exact ⟨_, ⟨_, rfl, h.sq⟩, r⟩
  | lst h r => cases e; exact ⟨_, ⟨_, rfl, h.sq⟩, r⟩
  | str z => cases e; exact ⟨_, ⟨_, rfl, rfl⟩, rds_signs z⟩
  | ref a =>
    simp only [srcD] at e
    split at e
    · cases e
      obtain ⟨_, _, vs, e1, r⟩ := rh.hp a _ k
      exact ⟨vs, ⟨a, rfl, .of e1⟩, r⟩
    · cases e
  | _ => cases e
theorem srcD_keep {S : HD} {d : D} {xs : List D} {keep : HD → Prop} (e : srcD S d = some (xs, keep)) : keep S := by
  cases d <;> first | (cases e; done) | (cases e; trivial) | skip
  simp only [srcD] at e
  split at e
  · cases e; assumption
  · cases e
/-! ### enumerate -/
def enumD (xs : List D) : List D := (xs.zipIdx).map fun p => .tup [.int (p.2 : Nat), p.1]
theorem enumD_get {xs : List D} {i : Nat} {d : D} (h : (enumD xs)[i]? = some d) : ∃ x, xs[i]? = some x ∧ d = .tup [.int (i : Nat), x] := by
  unfold enumD at h
  rw [List.getElem?_map, List.getElem?_zipIdx] at h
  cases e : xs[i]? with
  | none => rw [e] at h; cases h
  | some x => rw [e] at h; simp at h; exact ⟨x, rfl, h.symm⟩
theorem enumD_len (xs : List D) : (enumD xs).length = xs.length := by simp [enumD]
theorem itOk_enum {K : PySem.W.Frag} {G : Addr → Prop} {S : HD} {H : Hp} {k : SK} {v : V} {xs : List D} {keep : HD → Prop} (h : ∀ S1 H1, FL S H S1 H1 → RH K G S1 H1 → keep S1 → ∃ vs, SrcV K H1 k v vs ∧ RDs K G S1 H1 xs vs) : ItOk K G S H (IteA K k v) (enumD xs) keep where
  go := fun i d S1 H1 hx f r kp => by
    obtain ⟨x, hx', rfl⟩ := enumD_get hx
    obtain ⟨vs, h1, h2⟩ := h S1 H1 f r kp
    obtain ⟨y, e1, e2⟩ := h2.get hx'
    refine ⟨⟨vs, y, h1, e1⟩, fun z H2 ⟨T, y', ez, hT, eH, hy⟩ => ?_⟩
    subst ez eH
    have := hy vs h1
    rw [e1] at this
    cases this
    obtain ⟨r', f', _⟩ := r.newF hT (.tup [.int (i : Nat), y])
    exact ⟨f', r', r.newT hT (.cons (.int _) (.cons e2 .nil))⟩
  stop := fun S1 H1 f r kp => by
    obtain ⟨vs, h1, h2⟩ := h S1 H1 f r kp
    exact ⟨vs, h1, by rw [enumD_len, h2.length]; exact Nat.le_refl _⟩
def iEnumD (ta : TAD) : TID := fun σ S R => ta σ S fun ds S1 => match ds with
  | [d] => (match srcD S1 d with
    | some (xs, keep) => R (enumD xs) keep S1
    | none => False)
  | _ => False
theorem di_enum {X : Cx} {e : Expr} {ta : TAD} {p pos tpos : Pos} {elts : List Expr} {kk : Nat} (hm : X.mg "enumerate" = none) (ha : DA X [e] ta) (hg : Gl X "enumerate" := by rfl) (hs : starEach [e] X.env = [(false, eval e X.env)] := by rfl) : DI X (.Tuple elts kk tpos) (.Call (.Name "enumerate" p) [e] [] pos) (iEnumD ta) :=
  (pi_enumA hg hm ha hs).imp fun σ H R ⟨G, σd, S, Rd, rs, rh, t, p⟩ => ⟨G, σd, S, _, rs, rh, t, fun S1 ds vs H1 f1 rh1 q1 t1 => by
    split at t1
    · rename_i d
      cases q1 with
      | @cons _ v _ _ q r =>
        cases r
        split at t1
        · rename_i xs keep e
          obtain ⟨ws, h1, _⟩ := srcD_at e rh1 q (srcD_keep e)
          exact ⟨v, skD d, ws, rfl, h1, p S1 _ _ _ H1 f1 rh1 (fun G' S2 H2 m2 rh2 => itOk_enum fun S3 H3 f3 rh3 k3 => srcD_at e rh3 ((q.mv m2).fl f3) k3) t1⟩
        · exact t1.elim
    · exact t1.elim⟩
/-! ### zip -/
def zipD (xs ys : List D) : List D := (xs.zip ys).map fun p => .tup [p.1, p.2]
theorem zipD_len (xs ys : List D) : (zipD xs ys).length = min xs.length ys.length := by simp [zipD]
theorem zipD_get {xs ys : List D} {i : Nat} {d : D} (h : (zipD xs ys)[i]? = some d) : ∃ x y, xs[i]? = some x ∧ ys[i]? = some y ∧ d = .tup [x, y] := by
  unfold zipD at h
  rw [List.getElem?_map] at h
  obtain ⟨⟨x, y⟩, h1, h2⟩ := Option.map_eq_some_iff.mp h
  have := List.getElem?_zip_eq_some.mp h1
  exact ⟨x, y, this.1, this.2, h2.symm⟩
theorem itOk_zip {K : PySem.W.Frag} {G : Addr → Prop} {S : HD} {H : Hp} {k1 k2 : SK} {v1 v2 : V} {xs ys : List D} {keep : HD → Prop} (h : ∀ S1 H1, FL S H S1 H1 → RH K G S1 H1 → keep S1 → (∃ vs, SrcV K H1 k1 v1 vs ∧ RDs K G S1 H1 xs vs) ∧ ∃ vs, SrcV K H1 k2 v2 vs ∧ RDs K G S1 H1 ys vs) : ItOk K G S H (ItzA K k1 k2 v1 v2) (zipD xs ys) keep where
  go := fun i d S1 H1 hx f r kp => by
    obtain ⟨x, y, hx', hy, rfl⟩ := zipD_get hx
    obtain ⟨⟨vs, h1, h2⟩, ws, h3, h4⟩ := h S1 H1 f r kp
    obtain ⟨u, e1, e2⟩ := h2.get hx'
    obtain ⟨u', e3, e4⟩ := h4.get hy
    refine ⟨⟨vs, ws, u, u', h1, h3, e1, e3⟩, fun z H2 ⟨T, y1, y2, ez, hT, eH, g1, g2⟩ => ?_⟩
    subst ez eH
    have a1 := g1 vs h1
    have a2 := g2 ws h3
    rw [e1] at a1
    rw [e3] at a2
    cases a1
    cases a2
    obtain ⟨r', f', _⟩ := r.newF hT (.tup [u, u'])
    exact ⟨f', r', r.newT hT (.cons e2 (.cons e4 .nil))⟩
  stop := fun S1 H1 f r kp => by
    obtain ⟨⟨vs, h1, h2⟩, ws, h3, h4⟩ := h S1 H1 f r kp
    refine ⟨vs, ws, h1, h3, ?_⟩
    rw [zipD_len, h2.length, h4.length]
    omega
def iZipD (ta : TAD) : TID := fun σ S R => ta σ S fun ds S1 => match ds with
  | [d, e] => (match srcD S1 d, srcD S1 e with
    | some (xs, k1), some (ys, k2) => R (zipD xs ys) (fun S => k1 S ∧ k2 S) S1
    | _, _ => False)
  | _ => False
theorem di_zip {X : Cx} {e e2 : Expr} {ta : TAD} {p pos tpos : Pos} {elts : List Expr} {kk : Nat} (hm : X.mg "zip" = none) (ha : DA X [e, e2] ta) (hg : Gl X "zip" := by rfl)
    (hs : starEach [e, e2] X.env = (false, eval e X.env) :: starEach [e2] X.env := by rfl) (hpl : (backTo pos (starEach [e2] X.env)).any (·.1) = false := by rfl) : DI X (.Tuple elts kk tpos) (.Call (.Name "zip" p) [e, e2] [] pos) (iZipD ta) :=
  (pi_zipX hg hm ha hs hpl).imp fun σ H R ⟨G, σd, S, Rd, rs, rh, t, p⟩ => ⟨G, σd, S, _, rs, rh, t, fun S1 ds vs H1 f1 rh1 q1 t1 => by
    split at t1
    · rename_i d d'
      cases q1 with
      | @cons _ v _ _ q r =>
        cases r with
        | @cons _ v' _ _ q' r =>
          cases r
          split at t1
          · rename_i xs k1 ys k2 ea eb
            obtain ⟨ws, h1, _⟩ := srcD_at ea rh1 q (srcD_keep ea)
            obtain ⟨ws', h2, _⟩ := srcD_at eb rh1 q' (srcD_keep eb)
            exact ⟨v, v', skD d, skD d', ws, ws', rfl, h1, h2, p S1 _ _ _ H1 f1 rh1 (fun G' S2 H2 m2 rh2 => itOk_zip fun S3 H3 f3 rh3 k3 => ⟨srcD_at ea rh3 ((q.mv m2).fl f3) k3.1, srcD_at eb rh3 ((q'.mv m2).fl f3) k3.2⟩) t1⟩
          · exact t1.elim
    · exact t1.elim⟩
/-! ### anything walked by itself -/
/-- its turns -/
def ItV (K : PySem.W.Frag) (k : SK) (v : V) : It :=
  ⟨fun i H => ∃ (xs : List V) (x : V), SrcV K H k v xs ∧ xs[i]? = some x, fun i H y H' => H' = H ∧ ∀ xs, SrcV K H k v xs → xs[i]? = some y, fun i H => ∃ xs : List V, SrcV K H k v xs ∧ xs.length ≤ i⟩
theorem turn_map {P : Program} {w : World} {K : PySem.W.Frag} {tg : Expr} {J J' : It} {fp : List Addr} {it : Addr} {tn : Nat → Heap → Prop} (T : Turn P w K tg J fp it tn) (h1 : ∀ i H, J'.go i H → J.go i H) (h2 : ∀ i H x H', J'.go i H → J.yld i H x H' → J'.yld i H x H') (h3 : ∀ i H, J'.stop i H → J.stop i H) : Turn P w K tg J' fp it tn where
  mem := T.mem
  obj := T.obj
  keep := T.keep
  item := fun X hP hw hK hc i pins s σ H E I hf st hg => wpAny_mono (T.item X hP hw hK hc i pins s σ H E I hf st (h1 _ _ hg)) (fun r s1 ⟨u, e, q⟩ => ⟨u, e, wpAny_mono q (fun _ s2 ⟨x, H', a, b, c, d⟩ => ⟨x, H', a, b, h2 _ _ _ _ hg c, d⟩) fun _ _ h => h⟩) fun _ _ h => h
  done := fun X hP hw hK hc i pins s σ H E I hf st hg => T.done X hP hw hK hc i pins s σ H E I hf st (h3 _ _ hg)
  self := T.self
def iSrcV (K : PySem.W.Frag) (te : TE) : TI := fun σ H R => te σ H fun v H1 => ∃ k xs, SrcV K H1 k v xs ∧ (k = .str ∨ xs.length ≤ sizeLine → R (ItV K k v) H1)
theorem pi_src {X : Cx} {tg e : Expr} {te : TE} (he : PE X e te) : PI X tg e (iSrcV X.K te) := by
  refine ⟨fun pins s σ H R I h => thn (he.run pins s σ H _ I h) fun u s1 ⟨v, H1, I1, r1, k, xs, hq, q⟩ => ?_⟩
  cases k with
  | lst =>
    obtain ⟨a, rfl, hq⟩ := hq
    obtain rfl : u = Value.ref a := r1
    obtain ⟨its, rv, p, hz⟩ := I1.list hq
    refine wpAny_pyIter_list p.isList (pi_one (tk := s1.toks) I1 _ (turn_map (J' := ItV X.K .lst (.ref a)) (turn_list a _) (fun i H ⟨xs, x, ⟨b, e, h⟩, hx⟩ => ?_) (fun i H x H' ⟨xs, x', ⟨b, e, h⟩, hx⟩ y => ?_) fun i H ⟨xs, ⟨b, e, h⟩, hx⟩ => ?_) ⟨_, Heap.get?_push_size _ rfl, rfl, rfl⟩ (q (.inr hz)))
    · cases e; exact ⟨xs, x, h, hx⟩
    · cases e
      obtain ⟨y1, y2⟩ := y
      exact ⟨y1, fun zs ⟨b, e, hz⟩ => (by cases e; exact y2 zs hz)⟩
    · cases e; exact ⟨xs, h, hx⟩
  | tup =>
    obtain ⟨a, rfl, hq⟩ := hq
    obtain rfl : u = Value.ref a := r1
    obtain ⟨its, rv, p, hz⟩ := I1.tuple hq
    refine wpAny_pyIter_tuple (show s1.heap.IsTuple a its.toArray from p) (pi_one (tk := s1.toks) I1 _ (turn_map (J' := ItV X.K .tup (.ref a)) (turn_tuple a _) (fun i H ⟨xs, x, ⟨b, e, h⟩, hx⟩ => ?_) (fun i H x H' ⟨xs, x', ⟨b, e, h⟩, hx⟩ y => ?_) fun i H ⟨xs, ⟨b, e, h⟩, hx⟩ => ?_) ⟨_, Heap.get?_push_size _ rfl, rfl, rfl⟩ (q (.inr hz)))
    · cases e; exact ⟨xs, x, h, hx⟩
    · cases e
      obtain ⟨y1, y2⟩ := y
      exact ⟨y1, fun zs ⟨b, e, hz⟩ => (by cases e; exact y2 zs hz)⟩
    · cases e; exact ⟨xs, h, hx⟩
  | str =>
    obtain ⟨z, rfl, rfl⟩ := hq
    obtain ⟨t, rfl⟩ := r1
    have g1 : ∀ i H, (ItV X.K .str (.str z)).go i H → (Its z).go i H := fun i H ⟨xs, x, ⟨b, e, h⟩, hx⟩ => by
      cases e
      subst h
      have := (List.getElem?_eq_some_iff.mp hx).1
      rw [signs_len] at this
      exact this
    have g2 : ∀ i H x H', (ItV X.K .str (.str z)).go i H → (Its z).yld i H x H' → (ItV X.K .str (.str z)).yld i H x H' := fun i H x H' _ ⟨y1, c, hc, ev⟩ => ⟨y1, fun zs ⟨b, e, hz⟩ => by
      cases e
      subst hz ev
      exact signs_get hc⟩
    have g3 : ∀ i H, (ItV X.K .str (.str z)).stop i H → (Its z).stop i H := fun i H ⟨xs, ⟨b, e, h⟩, hx⟩ => by
      cases e
      subst h
      rw [signs_len] at hx
      exact hx
    cases ha : z.cps.all (· < 128)
    · exact wpAny_pyIter_wide ha (pi_one (tk := s1.toks) I1 _ (turn_map (turn_str _ z t "str_iterator" (.inr rfl)) g1 g2 g3) ⟨_, Heap.get?_push_size _ rfl, rfl, rfl⟩ (q (.inl rfl)))
    · exact wpAny_pyIter_ascii ha (pi_one (tk := s1.toks) I1 _ (turn_map (turn_str _ z t "str_ascii_iterator" (.inl rfl)) g1 g2 g3) ⟨_, Heap.get?_push_size _ rfl, rfl, rfl⟩ (q (.inl rfl)))
theorem itOk_v {K : PySem.W.Frag} {G : Addr → Prop} {S : HD} {H : Hp} {k : SK} {v : V} {xs : List D} {keep : HD → Prop} (h : ∀ S1 H1, FL S H S1 H1 → RH K G S1 H1 → keep S1 → ∃ vs, SrcV K H1 k v vs ∧ RDs K G S1 H1 xs vs) : ItOk K G S H (ItV K k v) xs keep where
  go := fun i d S1 H1 hx f r kp => by
    obtain ⟨vs, h1, h2⟩ := h S1 H1 f r kp
    obtain ⟨y, e1, e2⟩ := h2.get hx
    refine ⟨⟨vs, y, h1, e1⟩, fun z H2 ⟨eH, hy⟩ => ?_⟩
    subst eH
    have := hy vs h1
    rw [e1] at this
    cases this
    exact ⟨.refl _ _, r, e2⟩
  stop := fun S1 H1 f r kp => by
    obtain ⟨vs, h1, h2⟩ := h S1 H1 f r kp
    exact ⟨vs, h1, by rw [h2.length]; exact Nat.le_refl _⟩
/-- a list, a tuple, a text -/
def iAnyD (te : TED) : TID := fun σ S R => te σ S fun d S1 => match srcD S1 d with
  | some (xs, keep) => (match d with
    | .str z => R xs keep S1
    | _ => xs.length ≤ sizeLine → R xs keep S1)
  | none => False
theorem di_any {X : Cx} {tg l : Expr} {tl : TED} (hl : DE X l tl) : DI X tg l (iAnyD tl) :=
  (pi_src hl).imp fun σ H R ⟨G, σd, S, Rd, rs, rh, t, p⟩ => ⟨G, σd, S, _, rs, rh, t, fun S1 d v H1 f1 rh1 q1 t1 => by
    split at t1
    · rename_i xs keep e
      obtain ⟨vs, h1, h2⟩ := srcD_at e rh1 q1 (srcD_keep e)
      refine ⟨skD d, vs, h1, fun hz => p S1 _ _ _ H1 f1 rh1 (fun G' S2 H2 m2 rh2 => itOk_v fun S3 H3 f3 rh3 k3 => srcD_at e rh3 ((q1.mv m2).fl f3) k3) ?_⟩
      split at t1
      · exact t1
      · rename_i ne
        refine t1 (hz.elim (fun e => ?_) fun hz => by rw [h2.length]; exact hz)
        cases d <;> first | cases e | skip
        exact (ne _ rfl).elim
    · exact t1.elim⟩
end PD
end
section
/-! PD21: methods of lists and texts, in, sum, [::-1]. -/
namespace PD
open PySem PySem.Spec PyProof.Rows L2
section
variable {X : Cx} {o e a b : Expr} {es : List Expr} {to te ta tb : TED} {tA : TAD} {name : Str} {apos cpos pos : Pos}
/-- a list, tracked or frozen -/
def isLst (S : HD) (d : D) : Prop := ∃ xs, asLst S d = some xs
/-- o.m(e, ..) of any list -/
def tMethA (rd : D → List D → HD → QD → Prop) (to : TED) (ta : TAD) : TED := fun σ S Q => to σ S fun x S1 => isLst S1 x ∧ ta σ S1 fun ds S2 => rd x ds S2 Q
theorem de_methA {id : String} {r : V → List V → Hp → VK → Prop} {rd : D → List D → HD → QD → Prop} (slot : Slot "list" name id) (hty : typeOf (.builtin id) = pure (.type "method_descriptor")) (hm : MtR X id r)
    (i : ∀ G S H d v ds vs Qd Q, RH X.K G S H → RD X.K G S H d v → RDs X.K G S H ds vs → rd d ds S Qd → Post X.K G S H Qd Q → r v vs H Q) (ho : DE X o to) (ha : DA X (e :: es) tA)
    (hbase : attributeBase o name X.env (eval o X.env) = eval o X.env := by rfl)
    (hfew : ((backTo cpos (starEach (e :: es) X.env)).all (fun x => !x.1) && (backToKw cpos (keywordEach [] X.env)).all (fun x => x.1.isSome)
      && decide ((e :: es).length + ([] : List Keyword).length + (if ([] : List Keyword).isEmpty then 0 else 1) < 30)) = true := by rfl)
    (hline : (apos.endLine == cpos.line) = true := by rfl) (hs : starEach (e :: es) X.env = (false, eval e X.env) :: starEach es X.env := by rfl) (hplain : (backTo cpos (starEach es X.env)).any (·.1) = false := by rfl) :
    DE X (.Call (.Attribute o name apos) (e :: es) [] cpos) (tMethA rd to tA) :=
  (pe_bm PySem.F.plainAttrs_list slot hty hm ho ha hbase hfew hline hs hplain).imp fun σ H Q ⟨G, σd, S, Qd, rs, rh, t, p⟩ => ⟨G, σd, S, _, rs, rh, t, fun S1 d v H1 f1 rh1 q1 ⟨⟨xs, hl⟩, t1⟩ => by
    obtain ⟨p1, vs, rfl, l1, _⟩ := asLst_ok rh1 hl q1
    exact ⟨.inl ⟨rfl, _, l1⟩, G, σd, S1, _, rs.fl f1, rh1, t1, fun S2 ds vs H2 f2 rh2 q2 t2 => i G S2 H2 _ _ ds vs _ _ rh2 (q1.fl f2) q2 t2 (p.fl (f1.trans f2))⟩⟩
theorem de_methA0 {id : String} {r : V → List V → Hp → VK → Prop} {rd : D → List D → HD → QD → Prop} (slot : Slot "list" name id) (hty : typeOf (.builtin id) = pure (.type "method_descriptor")) (hm : MtR X id r)
    (i : ∀ G S H d v Qd Q, RH X.K G S H → RD X.K G S H d v → rd d [] S Qd → Post X.K G S H Qd Q → r v [] H Q) (ho : DE X o to)
    (hbase : attributeBase o name X.env (eval o X.env) = eval o X.env := by rfl) (hline : (apos.endLine == cpos.line) = true := by rfl) : DE X (.Call (.Attribute o name apos) [] [] cpos) (tMethA rd to tNilD) :=
  (pe_bm0 PySem.F.plainAttrs_list slot hty hm ho hbase hline).imp fun σ H Q ⟨G, σd, S, Qd, rs, rh, t, p⟩ => ⟨G, σd, S, _, rs, rh, t, fun S1 d v H1 f1 rh1 q1 ⟨⟨xs, hl⟩, t1⟩ => by
    obtain ⟨p1, vs, rfl, l1, _⟩ := asLst_ok rh1 hl q1
    exact ⟨.inl ⟨rfl, _, l1⟩, i G S1 H1 _ _ _ _ rh1 q1 t1 (p.fl f1)⟩⟩
/-- xs.extend(ys) -/
def rExtD : D → List D → HD → QD → Prop := fun x ds S Q => match x, ds with
  | .ref a, [y] => (match S.hp a, asLst S y with
    | some (.lst xs), some zs => xs.length + zs.length ≤ sizeLine ∧ Q .non (S.set a (.lst (xs ++ zs)))
    | _, _ => False)
  | _, _ => False
/-- xs.pop() -/
def rPopD : D → List D → HD → QD → Prop := fun x _ S Q => match x with
  | .ref a => (match S.hp a with
    | some (.lst xs) => (match xs.getLast? with
      | some y => Q y (S.set a (.lst xs.dropLast))
      | none => False)
    | _ => False)
  | _ => False
theorem RDs.dropLast {K : PySem.W.Frag} {G : Addr → Prop} {S : HD} {H : Hp} {ds : List D} {vs : List V} (r : RDs K G S H ds vs) : RDs K G S H ds.dropLast vs.dropLast := by
  rw [List.dropLast_eq_take, List.dropLast_eq_take, r.length]
  exact r.take _
theorem de_pop (ho : DE X o to) (hbase : attributeBase o "pop" X.env (eval o X.env) = eval o X.env := by rfl) (hline : (apos.endLine == cpos.line) = true := by rfl) : DE X (.Call (.Attribute o "pop" apos) [] [] cpos) (tMethA rPopD to tNilD) :=
  de_methA0 PySem.F.slot_list_pop PySem.F.type_list_pop mt_pop (fun G S H d v Qd Q rh q1 t p => by
    unfold rPopD at t
    split at t
    · rename_i a
      split at t
      · rename_i xs e
        split at t
        · rename_i y e2
          obtain ⟨_, _, ws, e1, r⟩ := rh.hp a _ e
          cases q1
          rw [List.getLast?_eq_getElem?] at e2
          obtain ⟨u, h1, h2⟩ := r.get e2
          rw [r.length] at h1
          obtain ⟨rh', f'⟩ := rh.writeL e r.dropLast
          exact ⟨a, ws, u, rfl, rfl, e1, h1, p _ _ _ _ f' rh' (h2.fl f') t⟩
        · exact t.elim
      · exact t.elim
    · exact t.elim) ho hbase hline
/-! ### flat values -/
def flatD : D → Bool
  | .non => true
  | .bl _ => true
  | .int _ => true
  | .str _ => true
  | _ => false
def toV : D → V
  | .bl b => .bl b
  | .int i => .int i
  | .str x => .str x
  | _ => .non
def eqF (d e : D) : Bool := eqV (toV d) (toV e)
theorem flat_v {K : PySem.W.Frag} {G : Addr → Prop} {S : HD} {H : Hp} {d : D} {v : V} (q : RD K G S H d v) (h : flatD d = true) : v = toV d ∧ flatV v = true := by
  cases q <;> first | exact ⟨rfl, rfl⟩ | cases h
theorem flats_v {K : PySem.W.Frag} {G : Addr → Prop} {S : HD} {H : Hp} : ∀ {ds : List D} {vs : List V}, RDs K G S H ds vs → ds.all flatD = true → vs = ds.map toV ∧ vs.all flatV = true
  | _, _, .nil, _ => ⟨rfl, rfl⟩
  | _, _, .cons q r, h => by
    simp only [List.all_cons, Bool.and_eq_true] at h
    obtain ⟨h1, h2⟩ := flat_v q h.1
    obtain ⟨h3, h4⟩ := flats_v r h.2
    exact ⟨by rw [h1, h3]; rfl, by simp only [List.all_cons, h2, h4, Bool.and_self]⟩
/-- x in xs, flat -/
def inF (x : D) (xs : List D) : Bool := xs.any fun y => eqF y x
def rInD (neg : Bool) : R2D := fun x y S Q => match asSeq S y with
  | some xs => (flatD x = true ∧ xs.all flatD = true) ∧ Q (.bl (if neg then !inF x xs else inF x xs)) S
  | none => False
theorem in2 {K : PySem.W.Frag} (neg : Bool) : Op2 K (rIn K neg) (rInD neg) := fun G S H d1 d2 v1 v2 Qd Q rh q1 q2 t p => by
  unfold rInD at t
  split at t
  · rename_i xs e
    obtain ⟨⟨f1, f2⟩, t⟩ := t
    obtain ⟨a, ws, rfl, l, r⟩ := asSeq_ok rh e q2
    obtain ⟨e1, g1⟩ := flat_v q1 f1
    obtain ⟨e2, g2⟩ := flats_v r f2
    refine ⟨a, ws, rfl, l, g1, g2, p.here rh ?_ t⟩
    have e3 : inV v1 ws = inF d1 xs := by
      rw [e1, e2]
      unfold inV inF eqF
      rw [List.any_map]
      rfl
    rw [e3]
    exact .bl _
  · exact t.elim
/-- xs.index(y), flat: the first place -/
def ixF (x : D) : List D → Option Nat
  | [] => none
  | y :: ys => if eqF y x = true then some 0 else (ixF x ys).map (· + 1)
def rLixD : D → List D → HD → QD → Prop := fun x ds S Q => match ds with
  | [y] => (match asLst S x with
    | some xs => (flatD y = true ∧ xs.all flatD = true) ∧ (match ixF y xs with
      | some j => Q (.int (j : Nat)) S
      | none => False)
    | none => False)
  | _ => False
theorem ixF_some {x : D} : ∀ {xs : List D} {j : Nat}, ixF x xs = some j → ∃ z, xs[j]? = some z ∧ eqF z x = true ∧ ∀ m z', m < j → xs[m]? = some z' → eqF z' x = false
  | [], j, h => by cases h
  | y :: ys, j, h => by
    unfold ixF at h
    split at h
    · rename_i hy
      cases h
      exact ⟨y, rfl, hy, fun m z' hm => absurd hm (Nat.not_lt_zero m)⟩
    · rename_i hy
      obtain ⟨k, hk, rfl⟩ := Option.map_eq_some_iff.mp h
      obtain ⟨z, h1, h2, h3⟩ := ixF_some hk
      refine ⟨z, by simpa using h1, h2, fun m z' hm hz => ?_⟩
      cases m with
      | zero => simp at hz; subst hz; simpa using hy
      | succ m => exact h3 m z' (by omega) (by simpa using hz)
/-- sum(xs) of whole numbers -/
def intsOf : List D → Option (List Int)
  | [] => some []
  | .int i :: r => (intsOf r).map (i :: ·)
  | _ :: _ => none
theorem intsOf_eq : ∀ {ds : List D} {ns : List Int}, intsOf ds = some ns → ds = ns.map D.int
  | [], ns, h => by cases h; rfl
  | .int i :: r, ns, h => by
    simp only [intsOf] at h
    obtain ⟨ms, h1, rfl⟩ := Option.map_eq_some_iff.mp h
    rw [intsOf_eq h1]
    rfl
  | .non :: _, _, h => by cases h
  | .bl _ :: _, _, h => by cases h
  | .str _ :: _, _, h => by cases h
  | .tup _ :: _, _, h => by cases h
  | .lst _ :: _, _, h => by cases h
  | .dic _ :: _, _, h => by cases h
  | .ref _ :: _, _, h => by cases h
  | .ty _ :: _, _, h => by cases h
  | .deck :: _, _, h => by cases h
theorem intsOf_map (ns : List Int) : intsOf (ns.map D.int) = some ns := by
  induction ns with
  | nil => rfl
  | cons n ns ih => simp [intsOf, ih]
def rSumD : SpD := fun ds S Q => match ds with
  | [d] => (match asLst S d with
    | some xs => (match intsOf xs with
      | some ns => Q (.int ns.sum) S
      | none => False)
    | none => False)
  | _ => False
end
end PD
end
section
/-! PD22: extend by any list, index, join, [::-1] of lists. -/
namespace PD
open PySem PySem.Spec PyProof.Rows L2
open AutoSeq1 (wpAny_loadPart')
section
variable {X : Cx} {o e a b : Expr} {to te ta tb : TED} {apos cpos pos : Pos}
theorem de_lindex (ho : DE X o to) (ha : DA X [e] (tConsD te tNilD)) (hbase : attributeBase o "index" X.env (eval o X.env) = eval o X.env := by rfl)
    (hfew : ((backTo cpos (starEach (e :: []) X.env)).all (fun x => !x.1) && (backToKw cpos (keywordEach [] X.env)).all (fun x => x.1.isSome)
      && decide ((e :: ([] : List Expr)).length + ([] : List Keyword).length + (if ([] : List Keyword).isEmpty then 0 else 1) < 30)) = true := by rfl)
    (hline : (apos.endLine == cpos.line) = true := by rfl) (hs : starEach (e :: []) X.env = (false, eval e X.env) :: starEach [] X.env := by rfl) : DE X (.Call (.Attribute o "index" apos) [e] [] cpos) (tMethA rLixD to (tConsD te tNilD)) :=
  de_methA PySem.F.slot_list_index PySem.F.type_list_index mt_index (fun G S H d v ds vs Qd Q rh q1 q2 t p => by
    unfold rLixD at t
    split at t
    · rename_i y
      split at t
      · rename_i xs e
        obtain ⟨⟨f1, f2⟩, t⟩ := t
        split at t
        · rename_i j ej
          obtain ⟨z, z1, z2, z3⟩ := ixF_some ej
          obtain ⟨p1, ws, rfl, l, r⟩ := asLst_ok rh e q1
          cases q2 with
          | cons q2 r2 =>
            cases r2
            obtain ⟨e1, g1⟩ := flat_v q2 f1
            obtain ⟨e2, g2⟩ := flats_v r f2
            subst e1 e2
            refine ⟨p1, _, _, j, toV z, rfl, rfl, l, g1, g2, by rw [List.getElem?_map, z1]; rfl, z2, fun m z' hm hz => ?_, p.here rh (.int _) t⟩
            rw [List.getElem?_map] at hz
            obtain ⟨w, hw, rfl⟩ := Option.map_eq_some_iff.mp hz
            exact z3 m w hm hw
        · exact t.elim
      · exact t.elim
    · exact t.elim) ho ha hbase hfew hline hs rfl
/-! ### texts -/
/-- o.m(e) of a text -/
def tMethS (rd : D → D → HD → QD → Prop) (to te : TED) : TED := fun σ S Q => to σ S fun x S1 => (∃ z, x = .str z) ∧ te σ S1 fun y S2 => rd x y S2 Q
def strsOf : List D → Option (List Str)
  | [] => some []
  | .str i :: r => (strsOf r).map (i :: ·)
  | _ :: _ => none
def rJoinD (x y : D) (S : HD) (Q : QD) : Prop := match x, asSeq S y with
  | .str a, some xs => (match strsOf xs with
    | some ys => (ys.map (·.length)).sum + ys.length * a.length ≤ 16777216 ∧ Q (.str (Txt.join a ys)) S
    | none => False)
  | _, _ => False
/-- s.index(t), found -/
def rSixD (x y : D) (S : HD) (Q : QD) : Prop := match x, y with
  | .str a, .str b => (match Txt.index0 a b with
    | some k => Q (.int (k : Nat)) S
    | none => False)
  | _, _ => False
/-- xs[::-1] -/
def tRevLD (te : TED) : TED := fun σ S Q => te σ S fun d S1 => match asLst S1 d with
  | some xs => Q (.lst xs.reverse) S1
  | none => False
end
end PD
end
section
/-! PD23: dicts with whole numbers and texts as keys. -/
namespace PD
open PySem PySem.Spec PyProof.Rows L2
def keyOf : D → Option Key
  | .int i => some (.inl i)
  | .str x => some (.inr x)
  | _ => none
theorem keyOf_kD (k : Key) : keyOf (kD k) = some k := by cases k <;> rfl
theorem keyOf_eq {d : D} {k : Key} (h : keyOf d = some k) : d = kD k := by
  cases d <;> first | cases h | skip
  all_goals rfl
def getK : List (D × D) → Key → Option D
  | [], _ => none
  | (d, v) :: r, k => if keyOf d = some k then some v else getK r k
def hasK (kds : List (D × D)) (k : Key) : Bool := (getK kds k).isSome
def putD (kds : List (D × D)) (k : Key) (v : D) : List (D × D) :=
  if hasK kds k = true then kds.map (fun kv => if keyOf kv.1 = some k then (kv.1, v) else kv) else kds ++ [(kD k, v)]
def asDic (S : HD) : D → Option (List (D × D))
  | .dic kds => some kds
  | .ref a => (match S.hp a with
    | some (.dic kds) => some kds
    | _ => none)
  | _ => none
section
variable {K : PySem.W.Frag} {G : Addr → Prop} {S : HD} {H : Hp}
theorem asDic_ok (rh : RH K G S H) {d : D} {v : V} {kds : List (D × D)} (h : asDic S d = some kds) (q : RD K G S H d v) : ∃ p kvs, v = .ref p ∧ Rd H p (.dK kvs) ∧ RDk K G S H kds kvs := by
  cases q with
  | dic h1 r => cases h; exact ⟨_, _, rfl, h1.2, r⟩
  | ref a =>
    simp only [asDic] at h
    split at h
    · rename_i ys e
      cases h
      obtain ⟨_, _, kvs, e1, r⟩ := rh.hp a _ e
      exact ⟨a, kvs, rfl, .inl e1, r⟩
    · cases h
  | _ => cases h
theorem key_v {d : D} {v : V} {k : Key} (h : keyOf d = some k) (q : RD K G S H d v) : v = kV k := by
  cases q <;> first | cases h | skip
  all_goals rfl
theorem rdk_get : ∀ {kds : List (D × D)} {kvs : List (Key × V)} (k : Key), RDk K G S H kds kvs → (getK kds k = none ∧ valV kvs k = none) ∨ ∃ d v, getK kds k = some d ∧ valV kvs k = some v ∧ RD K G S H d v
  | _, _, k, .nil => .inl ⟨rfl, rfl⟩
  | _, _, k, @RDk.cons _ _ _ _ k' d v kds kvs h r => by
    by_cases e : k' = k
    · subst e
      exact .inr ⟨d, v, by simp [getK, keyOf_kD], valV_pos rfl, h⟩
    · have e1 : getK ((kD k', d) :: kds) k = getK kds k := by
        simp only [getK, keyOf_kD]
        exact if_neg fun q => e (Option.some.inj q)
      have e2 : valV ((k', v) :: kvs) k = valV kvs k := valV_neg e
      rw [e1, e2]
      exact rdk_get k r
theorem RDk.append : ∀ {a b : List (D × D)} {c d : List (Key × V)}, RDk K G S H a c → RDk K G S H b d → RDk K G S H (a ++ b) (c ++ d)
  | _, _, _, _, .nil, s => s
  | _, _, _, _, .cons h r, s => .cons h (r.append s)
theorem rdk_map {k : Key} {x : D} {y : V} (q : RD K G S H x y) : ∀ {kds : List (D × D)} {kvs : List (Key × V)}, RDk K G S H kds kvs →
    RDk K G S H (kds.map fun kv => if keyOf kv.1 = some k then (kv.1, x) else kv) (kvs.map fun kv => if kv.1 = k then (kv.1, y) else kv)
  | _, _, .nil => .nil
  | _, _, @RDk.cons _ _ _ _ k' d v kds kvs h r => by
    simp only [List.map_cons, keyOf_kD]
    by_cases e : k' = k
    · subst e
      simp only [if_true]
      exact .cons q (rdk_map q r)
    · rw [if_neg fun z => e (Option.some.inj z), if_neg e]
      exact .cons h (rdk_map q r)
theorem rdk_len : ∀ {kds : List (D × D)} {kvs : List (Key × V)}, RDk K G S H kds kvs → kds.length = kvs.length
  | _, _, .nil => rfl
  | _, _, .cons _ r => by simp [rdk_len r]
theorem rdk_put {kds : List (D × D)} {kvs : List (Key × V)} (k : Key) {x : D} {y : V} (q : RD K G S H x y) (r : RDk K G S H kds kvs) : RDk K G S H (putD kds k x) (putK kvs k y) := by
  unfold putD putK hasK
  rw [valV_any]
  rcases rdk_get k r with ⟨e1, e2⟩ | ⟨d, v, e1, e2, _⟩
  · rw [e1, e2]
    exact r.append (.cons q .nil)
  · rw [e1, e2]
    exact rdk_map q r
end
/-! ### in, [] and []= of any container -/
/-- x in y: a dict's keys, a sequence's flat items, a text's parts -/
def rInX (neg : Bool) : R2D := fun x y S Q => match asDic S y, keyOf x with
  | some kds, some k => Q (.bl (if neg then !hasK kds k else hasK kds k)) S
  | _, _ => rInD neg x y S Q
section
variable {X : Cx} {o i e a b : Expr} {to ti ta tb : TED} {pos pos' : Pos}
def rDIn (neg : Bool) : R2 := fun x y H Q => ∃ a ov, y = .ref a ∧ DGet H a x ov ∧ Q (.bl (if neg then !ov.isSome else ov.isSome)) H
theorem op_inD (hu : X.A.units + 1 < cLine) : OpR X (compareOp .In) (rDIn false) := by
  intro pins s σ H x y v u Q I rx ry ⟨a, ov, e, g, q⟩
  subst e
  obtain rfl : u = Value.ref a := ry
  exact d_in hu I g rx fun s3 I3 => ⟨.bl ov.isSome, H, I3, rfl, q⟩
theorem op_notInD (hu : X.A.units + 1 < cLine) : OpR X (compareOp .NotIn) (rDIn true) := by
  intro pins s σ H x y v u Q I rx ry ⟨a, ov, e, g, q⟩
  subst e
  obtain rfl : u = Value.ref a := ry
  exact d_notIn hu I g rx fun s3 I3 => ⟨.bl (!ov.isSome), H, I3, rfl, q⟩
theorem inX2 {K : PySem.W.Frag} (neg : Bool) : Op2 K (fun x y H Q => rIn K neg x y H Q ∨ rDIn neg x y H Q) (rInX neg) := fun G S H d1 d2 v1 v2 Qd Q rh q1 q2 t p => by
  unfold rInX at t
  split at t
  · rename_i kds k e1 e2
    obtain ⟨a, kvs, rfl, r0, r⟩ := asDic_ok rh e1 q2
    refine .inr ⟨a, valV kvs k, rfl, .inl ⟨kvs, k, r0, key_v e2 q1, rfl⟩, p.here rh ?_ t⟩
    have e3 : (valV kvs k).isSome = hasK kds k := by
      unfold hasK
      rcases rdk_get k r with ⟨z1, z2⟩ | ⟨d, v, z1, z2, _⟩ <;> rw [z1, z2] <;> rfl
    rw [e3]
    exact .bl _
  · exact .inl (in2 neg G S H d1 d2 v1 v2 Qd Q rh q1 q2 t p)
/-- d[k] -/
def rDIx : R2 := fun x y H Q => ∃ a v, x = .ref a ∧ DGet H a y (some v) ∧ Q v H
theorem ix_dic (hu : X.A.units + 1 < cLine) : IxR X rDIx := by
  intro value slice pins s σ H x y v u Q I rx ry ⟨a, w, e, g, q⟩ hs
  subst e
  obtain rfl : v = Value.ref a := rx
  exact tail_any (ops := [.ref a, u]) (dict_typeIs I g) PySem.F.slot_dict_getitem.lookup (d_getItem hu I g ry fun w' s3 I3 rw' => ⟨w, H, I3, rw', q⟩) hs
def rIxX : R2D := fun x y S Q => match asDic S x, keyOf y with
  | some kds, some k => (match getK kds k with
    | some v => Q v S
    | none => False)
  | _, _ => rIxD x y S Q
theorem ixX2 {K : PySem.W.Frag} : Op2 K (fun x y H Q => rIx K x y H Q ∨ rDIx x y H Q) rIxX := fun G S H d1 d2 v1 v2 Qd Q rh q1 q2 t p => by
  unfold rIxX at t
  split at t
  · rename_i kds k e1 e2
    obtain ⟨a, kvs, rfl, r0, r⟩ := asDic_ok rh e1 q1
    rcases rdk_get k r with ⟨z1, z2⟩ | ⟨d, v, z1, z2, z3⟩
    · rw [z1] at t; exact t.elim
    · rw [z1] at t
      exact .inr ⟨a, v, rfl, .inl ⟨kvs, k, r0, key_v e2 q2, z2.symm⟩, p.here rh z3 t⟩
  · exact .inl (ix2 G S H d1 d2 v1 v2 Qd Q rh q1 q2 t p)
theorem de_ixX {k : Nat} (hr : RoomG k X.A) (ha : DE X a ta) (hb : DE X b tb) (hs : PlainIx b := by exact fun _ _ => rfl) : DE X (.Subscript a b pos) (tBin rIxX ta tb) := (pe_ix (ix_seq.or (ix_dic hr.un1)) ha hb hs).imp (up_bin ixX2)
/-- o[i] = v of a tracked list or dict -/
def rSetX (o i v : D) (S : HD) (Q : HD → Prop) : Prop := match o with
  | .ref a => (match S.hp a, keyOf i with
    | some (.dic kds), some k => kds.length < 16000000 ∧ Q (S.set a (.dic (putD kds k v)))
    | some (.lst xs), some (.inl j) => (match ixN xs.length j with
      | some n => Q (S.set a (.lst (xs.set n v)))
      | none => False)
    | _, _ => False)
  | _ => False
def gSubX (to ti : TED) : TGD := fun v σ S Q => to σ S fun o S1 => ti σ S1 fun i S2 => rSetX o i v S2 fun S3 => Q σ S3
theorem RH.writeD {K : PySem.W.Frag} {G : Addr → Prop} {S : HD} {H : Hp} (rh : RH K G S H) {a : Addr} {xs ys : List (D × D)} {ws : List (Key × V)} (h : S.hp a = some (.dic xs)) (r : RDk K G S H ys ws) : RH K G (S.set a (.dic ys)) (upd H a (.dK ws)) ∧ FL S H (S.set a (.dic ys)) (upd H a (.dK ws)) := by
  have m : Mv G S H G (S.set a (.dic ys)) (upd H a (.dK ws)) := ⟨fun b o e z => by
    have ne : b ≠ a := fun q => by rw [← q, z.1] at h; cases h
    exact ⟨⟨by rw [HD.set_ne ne]; exact z.1, z.2.1, z.2.2⟩, by rw [upd_ne ne]; exact e⟩, fun _ e => e⟩
  exact rh.write h ⟨ws, upd_same, r.mv m⟩
theorem PSet.or {t1 t2 : TSet} (h1 : PSet X t1) (h2 : PSet X t2) : PSet X (fun o i v H Q => t1 o i v H Q ∨ t2 o i v H Q) := fun pins s σ H o i v ov iv u Q I ro ri rv h =>
  h.elim (h1 pins s σ H o i v ov iv u Q I ro ri rv) (h2 pins s σ H o i v ov iv u Q I ro ri rv)
theorem dg_subX {k : Nat} (hr : RoomG k X.A) (ho : DE X o to) (hi : DE X i ti)
    (ha : ∀ v, assign (.Subscript o i pos) X.env v = (do
      let ov ← holding [v] (eval o X.env)
      let iv ← holding [v, ov] (eval i X.env)
      standAt pos
      holding [v, ov, iv] (setItem ov iv v)
      release [v, ov, iv] []) := by intro _; rfl) : DG X (.Subscript o i pos) (gSubX to ti) :=
  (pg_sub ho hi (PSet.or set_list (set_dict hr.un1)) ha).imp fun v σ H Q ⟨G, σd, S, d, Qd, rs, rh, q, t, p⟩ =>
    ⟨G, σd, S, _, rs, rh, t, fun S1 d1 v1 H1 f1 rh1 q1 t1 => ⟨G, σd, S1, _, rs.fl f1, rh1, t1, fun S2 d2 v2 H2 f2 rh2 q2 t2 => by
      unfold rSetX at t2
      split at t2
      · rename_i a
        split at t2
        · rename_i kds k e ek
          cases q1
          obtain ⟨_, _, ws, e1, r⟩ := rh2.hp _ _ e
          obtain ⟨rh', f'⟩ := rh2.writeD e (rdk_put k (q.fl (f1.trans f2)) r)
          refine .inr ⟨a, _, rfl, .inl ⟨ws, k, e1, key_v ek q2, ?_, rfl⟩, p _ _ _ _ (f1.trans (f2.trans f')) rh' (rs.fl (f1.trans (f2.trans f'))) t2.2⟩
          have := rdk_len r
          have : (sizeLine : Nat) = 16777216 := rfl
          omega
        · rename_i xs j e ek
          split at t2
          · rename_i n en
            have e2 := keyOf_eq ek
            subst e2
            cases q1
            cases q2
            obtain ⟨_, _, ws, e1, r⟩ := rh2.hp _ _ e
            obtain ⟨rh', f'⟩ := rh2.writeL e (r.set (q.fl (f1.trans f2)) n)
            exact .inl ⟨a, ws, j, n, rfl, rfl, e1, by rw [← r.length]; exact en, p _ _ _ _ (f1.trans (f2.trans f')) rh' (rs.fl (f1.trans (f2.trans f'))) t2⟩
          · exact t2.elim
        · exact t2.elim
      · exact t2.elim⟩⟩
/-- {} that is to change -/
def tDicR : TED := fun _ S Q => ∀ p, S.hp p = none → Q (.ref p) (S.set p (.dic []))
theorem de_dicR : DE X (.Dict [] [] pos) tDicR := pe_dnewK.imp fun σ H Q ⟨G, σd, S, Qd, rs, rh, t, p⟩ => fun q hq => by
  obtain ⟨r', f'⟩ := rh.newR (o := .dic []) (ho := .dK []) hq ⟨[], upd_same, .nil⟩
  exact p _ _ _ _ f' r' (.ref q) (t q (rh.fresh hq).1)
end
/-! ### {k: v for ..}, frozen -/
def dcD (g : TGD) (tt : TTD) (tk tv : TED) (σ : SD) (keep : HD → Prop) (Q : List (D × D) → HD → Prop) : List D → List (D × D) → HD → Prop
  | [], acc, S => keep S ∧ Q acc S
  | d :: r, acc, S => keep S ∧ g d σ S fun σ2 S2 => tt σ2 S2 fun b S3 => if b = true then tk σ2 S3 fun y S4 => tv σ2 S4 fun z S5 => match keyOf y with
      | some k => dcD g tt tk tv σ keep Q r (putD acc k z) S5
      | none => False
    else dcD g tt tk tv σ keep Q r acc S3
def tDcV (ti : TID) (g : TGD) (tt : TTD) (tk tv : TED) (vs : List Nat) : TED := fun σ S Q => ti σ S fun xs keep S1 => xs.length ≤ sizeLine ∧ dcD g tt tk tv (wipeD σ vs) keep (fun acc S2 => Q (.dic acc) S2) xs [] S1
section
variable {X : Cx} {kx vx tg iter : Expr} {ifs : List Expr} {scope : Scope} {own : List (Str × Nat)} {pos : Pos} {ti : TID} {g : TGD} {tt : TTD} {tk tv : TED}
theorem dc_up {K : PySem.W.Frag} {vs : List Nat} {G : Addr → Prop} {S1 : HD} {H1 : Hp} {σd : SD} {σ : L2.St} {J : It} {xs : List D} {keep : HD → Prop} {Qd : List (D × D) → HD → Prop} {Q : VK}
    (rs1 : RSl K G S1 H1 σd σ) (rh1 : RH K G S1 H1) (hJ : ∀ G' S2 H2, Mv G S1 H1 G' S2 H2 → RH K G' S2 H2 → ItOk K G' S2 H2 J xs keep) (hz : xs.length ≤ sizeLine)
    (t : dcD g tt tk tv (wipeD σd vs) keep Qd xs [] S1) {p : Addr} (hp : H1 p = none)
    (fin : ∀ S2 H2 accd acc, FL S1 H1 S2 H2 → RH K (Res G p) S2 H2 → H2 p = some (.dK acc) → RDk K (Res G p) S2 H2 accd acc → Qd accd S2 → Q (.ref p) H2) :
    ∃ W : Nat → Nat → Hp → Prop, (∃ m, W 0 m (upd H1 p (.dK []))) ∧ ∀ i m H, W i m H →
      (J.stop i H ∧ Q (.ref p) H) ∨ (J.go i H ∧ ∃ Nx : Hp → Prop, (∀ H', Nx H' → ∃ m', m' < m ∧ W (i + 1) m' H') ∧ ∀ x H', J.yld i H x H' → upGw K vs g x (wipe σ vs) H' fun σ2 H2 => wipe σ2 vs = wipe σ vs ∧ upT K tt σ2 H2 fun b H3 =>
        if b = true then up K tk σ2 H3 fun y H4 => up K tv σ2 H4 fun z H5 => ∃ kvs k, y = kV k ∧ H5 p = some (.dK kvs) ∧ kvs.length < sizeLine ∧ Nx (upd H5 p (.dK (putK kvs k z))) else Nx H3) := by
  have wipe2 : ∀ (us : List Nat) (τ : L2.St), wipe (wipe τ us) us = wipe τ us := by
    intro us τ
    have key : ∀ (ws : List Nat) (τ : L2.St), (∀ u ∈ us, u ∈ ws) → wipe (wipe τ us) ws = wipe τ ws := by
      induction us with
      | nil => intro ws τ _; rfl
      | cons u us ih =>
        intro ws τ h
        show wipe ((wipe τ us).set u none) ws = _
        rw [wipe_set (h u List.mem_cons_self)]
        exact ih ws τ fun v hv => h v (List.mem_cons_of_mem _ hv)
    exact key us τ fun _ h => h
  refine ⟨fun i m H => m = xs.length - i ∧ i ≤ xs.length ∧ ∃ S2 accd acc, FL S1 H1 S2 H ∧ RH K (Res G p) S2 H ∧ H p = some (.dK acc) ∧ RDk K (Res G p) S2 H accd acc ∧ RSl K (Res G p) S2 H (wipeD σd vs) (wipe σ vs) ∧ acc.length ≤ i ∧ dcD g tt tk tv (wipeD σd vs) keep Qd (xs.drop i) accd S2,
    ⟨xs.length, by simp, Nat.zero_le _, S1, [], [], (Grow.upd hp).fl, rh1.res hp _, upd_same, .nil, (rs1.wipe vs).mv (res_in hp), Nat.zero_le _, t⟩, ?_⟩
  rintro i m H ⟨rfl, hi, S2, accd, acc, f2, rh2, hacc, racc, rsl2, hlen, t2⟩
  have ok := hJ (Res G p) S2 H ⟨fun a o e z => let ⟨n1, n2, n3⟩ := f2.kp a o e z.1 z.2.1; ⟨⟨n1, n2, fun g => g.elim z.2.2 (ne_of_none e hp)⟩, n3⟩, f2.dk⟩ rh2
  by_cases hlt : i < xs.length
  · have hx : xs[i]? = some xs[i] := by simp [hlt]
    rw [List.drop_eq_getElem_cons hlt] at t2
    obtain ⟨k2, t2⟩ := t2
    obtain ⟨go, yl⟩ := ok.go i _ S2 H hx (.refl _ _) rh2 k2
    refine .inr ⟨go, fun H' => ∃ S2 accd acc, FL S1 H1 S2 H' ∧ RH K (Res G p) S2 H' ∧ H' p = some (.dK acc) ∧ RDk K (Res G p) S2 H' accd acc ∧ RSl K (Res G p) S2 H' (wipeD σd vs) (wipe σ vs) ∧ acc.length ≤ i + 1 ∧ dcD g tt tk tv (wipeD σd vs) keep Qd (xs.drop (i + 1)) accd S2, fun H' n => ⟨_, by omega, rfl, hlt, n⟩, fun x H3 y => ?_⟩
    obtain ⟨f3, rh3, q3⟩ := yl x H3 y
    have pk : ∀ {S5 : HD} {H5 : Hp}, FL S2 H S5 H5 → H5 p = some (.dK acc) := fun {S5 H5} f => (f.kp p _ hacc (RH.resFree rh2).1 (RH.resFree rh2).2).2.2
    refine ⟨Res G p, _, S2, _, _, rsl2.fl f3, rh3, q3, t2, fun S4 σd4 σ4 H4 f4 rh4 rs4 w4 t4 => ⟨?_, ?_⟩⟩
    · rw [wipe2] at w4; exact w4
    refine ⟨Res G p, σd4, S4, _, rs4, rh4, t4, fun S5 b H5 f5 rh5 t5 => ?_⟩
    have f25 := f3.trans (f4.trans f5)
    have f15 := f2.trans f25
    cases b with
    | false =>
      refine iteF ?_
      rw [if_neg Bool.false_ne_true] at t5
      exact ⟨S5, accd, acc, f15, rh5, pk f25, racc.mv f25.mv, rsl2.fl f25, Nat.le_succ_of_le hlen, t5⟩
    | true =>
      refine iteT ?_
      rw [if_pos rfl] at t5
      refine ⟨Res G p, σd4, S5, _, rs4.fl f5, rh5, t5, fun S6 dk vk H6 f6 rh6 q6 t6 => ?_⟩
      refine ⟨Res G p, σd4, S6, _, (rs4.fl f5).fl f6, rh6, t6, fun S7 d v H7 f7 rh7 q7 t7 => ?_⟩
      split at t7
      · rename_i k ek
        have f27 := f25.trans (f6.trans f7)
        have hl : acc.length < sizeLine := by omega
        have ll : (putK acc k v).length ≤ i + 1 := by have := length_putK acc k v; omega
        refine ⟨acc, k, key_v ek q6, pk f27, hl, S7, putD accd k d, putK acc k v, (f2.trans f27).updp hp, rh7.resW _, upd_same, (rdk_put k q7 (racc.mv f27.mv)).mv res_mv, (rsl2.fl f27).mv res_mv, ll, t7⟩
      · exact t7.elim
  · have e : i = xs.length := by omega
    subst e
    rw [List.drop_length] at t2
    exact .inl ⟨ok.stop S2 H (.refl _ _) rh2 t2.1, fin S2 H accd acc f2 rh2 hacc racc t2.2⟩
theorem de_dcV (hN : X.N.Nodup) (hi : DI X tg iter ti) (ok : BlkOk X.N X.env.scope scope own)
    (hg : ∀ (s : Shared) (H : Hp) (C : Addr) (cl : List (Str × Addr)) (fp : List Addr), DGw (X.blk s H scope (compEnvC scope cl C X.env) fp) (own.map (·.2)) tg g) (ht : ∀ (s : Shared) (H : Hp) (C : Addr) (cl : List (Str × Addr)) (fp : List Addr), DTs (X.blk s H scope (compEnvC scope cl C X.env) fp) ifs tt)
    (hk : ∀ (s : Shared) (H : Hp) (C : Addr) (cl : List (Str × Addr)) (fp : List Addr), DE (X.blk s H scope (compEnvC scope cl C X.env) fp) kx tk)
    (he : ∀ (s : Shared) (H : Hp) (C : Addr) (cl : List (Str × Addr)) (fp : List Addr), DE (X.blk s H scope (compEnvC scope cl C X.env) fp) vx tv) (hc : X.calm = true := by rfl) (hs : ∀ x, foldedSetIterable iter X.env x = pure x := by intro _; rfl) :
    DE X (.DictComp kx vx [⟨tg, iter, ifs, 0⟩] scope pos) (tDcV ti g tt tk tv (own.map (·.2))) :=
  (pe_dc hc hN hi ok hg ht hk he hs).imp fun σ H Q ⟨G, σd, S, Qd, rs, rh, t, p⟩ =>
    ⟨G, σd, S, _, rs, rh, t, fun S1 J xs keep H1 f1 rh1 hJ ⟨hz, t1⟩ q hq => dc_up (rs.fl f1) rh1 hJ hz t1 hq fun S2 H2 accd acc f2 rh2 hacc racc qd =>
      p S2 _ _ H2 (f1.trans f2) rh2.resOut (.dic ⟨⟨(RH.resFree rh2).1, (RH.resFree rh2).2, fun g => by
        obtain ⟨⟨o, e⟩, _⟩ := rh1.rs q g
        rw [hq] at e; cases e⟩, .inl hacc⟩ (racc.mv res_out)) qd⟩
end
end PD
end
section
/-! PD24: name = {k: v for ..}; [::-1] of any. -/
namespace PD
open PySem PySem.Spec PyProof.Rows L2
section
variable {X : Cx} {kx vx tg iter e : Expr} {ifs : List Expr} {scope : Scope} {own : List (Str × Nat)} {pos py spos : Pos} {y : Str}
/-- [::-1] of a tuple or of a list -/
def tRevX (te : TED) : TED := fun σ S Q => tRevTD te σ S Q ∨ tRevLD te σ S Q
end
end PD
end
section
/-! PD25: None in d. -/
namespace PD
open PySem PySem.Spec PyProof.Rows L2
theorem leaf_keys {P : Program} {w : World} {es : Array DictEntry} (h : KeysOf (mixKind P w) es) : KeysOf (leafKind P w) es ∧ findBy (leafKind P w).is es Leaf.none = none := by
  have key : ∀ e ∈ es, (∃ k, (leafKind P w).is k e.key = true ∧ e.hash = (leafKind P w).hash k) ∧ (leafKind P w).is Leaf.none e.key = false := fun e he => by
    obtain ⟨k, h1, h2⟩ := h e he
    have h1' : keyIs k e.key = true := h1
    have h2' : e.hash = keyH w k := h2
    rcases keyIs_shape h1' with ⟨i, t, e1, e2⟩ | ⟨x, t, e1, e2⟩
    · subst e1
      rw [e2]
      exact ⟨⟨.num i, decide_eq_true rfl, h2'⟩, rfl⟩
    · subst e1
      rw [e2]
      exact ⟨⟨.text x, keyIs_str x t, h2'⟩, rfl⟩
  refine ⟨fun e he => (key e he).1, ?_⟩
  unfold findBy
  rw [Array.find?_eq_none.mpr fun e he => by rw [(key e he).2]; exact Bool.false_ne_true]
  rfl
section
variable {X : Cx} {a b : Expr} {ta tb : TED} {pos : Pos}
def rNoneIn (neg : Bool) : R2 := fun x y H Q => ∃ a kvs, x = .non ∧ y = .ref a ∧ Rd H a (.dK kvs) ∧ Q (.bl neg) H
theorem none_map {pins : List (Addr × Obj)} {σ : L2.St} {H : Hp} {s : Shared} (I : Inv X pins σ H s) {a : Addr} {kvs : List (Key × V)} (h : Rd H a (.dK kvs)) : (a == sysModules) = false ∧ ∃ f, s.heap.MapOf (leafKind X.prog X.w) a f ∧ f Leaf.none = none := by
  obtain ⟨_, hd, vs, _, o, es, ep, h1, h2, h3, h4, _⟩ := dk_rd I.hok h
  obtain ⟨k1, k2⟩ := leaf_keys h4
  exact ⟨hd, _, ⟨o, es, ep, h1, h2, h3, k1, fun _ => rfl⟩, k2⟩
theorem op_noneIn : OpR X (compareOp .In) (rNoneIn false) := by
  intro pins s σ H x y v u Q I rx ry ⟨a, kvs, e1, e2, h, q⟩
  subst e1 e2
  obtain rfl : v = Value.none := rx
  obtain rfl : u = Value.ref a := ry
  obtain ⟨hd, f, hm, hf⟩ := none_map I h
  refine wpAny_in_of (knd := leafKind X.prog X.w) (k := Leaf.none) rfl hd hm ?_
  rw [hf]
  exact ⟨.bl false, H, I.tok _, rfl, q⟩
theorem op_noneNotIn : OpR X (compareOp .NotIn) (rNoneIn true) := by
  intro pins s σ H x y v u Q I rx ry ⟨a, kvs, e1, e2, h, q⟩
  subst e1 e2
  obtain rfl : v = Value.none := rx
  obtain rfl : u = Value.ref a := ry
  obtain ⟨hd, f, hm, hf⟩ := none_map I h
  refine wpAny_notIn_of (knd := leafKind X.prog X.w) (k := Leaf.none) rfl hd hm ?_
  rw [hf]
  exact ⟨.bl true, H, I.tok _, rfl, q⟩
def rInY (neg : Bool) : R2D := fun x y S Q => match x, asDic S y with
  | .non, some _ => Q (.bl neg) S
  | x, _ => rInX neg x y S Q
theorem inY2 {K : PySem.W.Frag} (neg : Bool) : Op2 K (fun x y H Q => (rIn K neg x y H Q ∨ rDIn neg x y H Q) ∨ rNoneIn neg x y H Q) (rInY neg) := fun G S H d1 d2 v1 v2 Qd Q rh q1 q2 t p => by
  unfold rInY at t
  split at t
  · rename_i kds e
    obtain ⟨a, kvs, rfl, r0, r⟩ := asDic_ok rh e q2
    cases q1
    exact .inr ⟨a, kvs, rfl, rfl, r0, p.here rh (.bl _) t⟩
  · exact .inl (inX2 neg G S H _ _ v1 v2 Qd Q rh q1 q2 t p)
theorem dt_inY {k : Nat} (hr : RoomG k X.A) (ha : DE X a ta) (hb : DE X b tb) (hm : behindInMarks .In b = false := by rfl) : DT X (.Compare a [.In] [b] pos) (tTst (tBin (rInY false) ta tb)) := dt_cmp ((op_in_seq.or (op_inD hr.un1)).or op_noneIn) (inY2 false) ha hb hm
theorem dt_notInY {k : Nat} (hr : RoomG k X.A) (ha : DE X a ta) (hb : DE X b tb) (hm : behindInMarks .NotIn b = false := by rfl) : DT X (.Compare a [.NotIn] [b] pos) (tTst (tBin (rInY true) ta tb)) := dt_cmp ((op_notIn_seq.or (op_notInD hr.un1)).or op_noneNotIn) (inY2 true) ha hb hm
end
end PD
end
section
/-! PD26: instances of own classes: fields, methods, making. -/
namespace PD
open PySem PySem.Spec PyProof.Rows L2
/-- e.f of an instance of C -/
def fldD (C : Addr) (f : Str) (x : D) (S : HD) (Q : QD) : Prop := match x with
  | .ref a => (match S.hp a with
    | some (.ins C' fs) => C' = C ∧ (match fs.lookup f with | some d => Q d S | none => False)
    | _ => False)
  | _ => False
def tFldD (C : Addr) (f : Str) (te : TED) : TED := fun σ S Q => te σ S fun x S1 => fldD C f x S1 Q
section
variable {X : Cx} {C : Addr} {f m : Str} {e o : Expr} {te to : TED} {pos apos p : Pos}
/-- a method of a class -/
structure HasM (P : Program) (w : World) (K : PySem.W.Frag) (mg : Str → Option Value) (base : Heap) (k : Nat) (C : Addr) (m : Str) (ps : List Str) (sp : SpD) : Prop where
  ex : ∃ f fd, Meth K C m f ∧ Binds K fd ps [] ∧ FnD P w K mg base k f fd ps sp
theorem HasM.mono {P : Program} {w : World} {K : PySem.W.Frag} {mg : Str → Option Value} {base : Heap} {j k : Nat} {C : Addr} {m : Str} {ps : List Str} {sp : SpD} (h : HasM P w K mg base j C m ps sp) (l : j ≤ k) : HasM P w K mg base k C m ps sp :=
  let ⟨f, fd, a, b, c⟩ := h.ex; ⟨f, fd, a, b, c.mono l⟩
def methD (C : Addr) (m : Str) (x : D) (S : HD) (P : Prop) : Prop := match x with
  | .ref a => (match S.hp a with
    | some (.ins C' fs) => C' = C ∧ fs.lookup m = none ∧ P
    | _ => False)
  | _ => False
def tMethC (C : Addr) (m : Str) (sp : SpD) (to : TED) (ta : TAD) : TED := fun σ S Q => to σ S fun x S1 => methD C m x S1 (ta σ S1 fun ds S2 => sp (x :: ds) S2 Q)
variable {k : Nat} {ps : List Str} {sp : SpD} {es : List Expr} {ta : TAD}
end
end PD
end
section
/-! PD27: instances: a field is set; making one. -/
namespace PD
open PySem PySem.Spec PyProof.Rows L2
def putFD (f : Str) (v : D) : List (Str × D) → List (Str × D)
  | [] => [(f, v)]
  | (g, x) :: r => if g = f then (g, v) :: r else (g, x) :: putFD f v r
/-- o.f = v -/
def sFldD (C : Addr) (f : Str) (to tv : TED) : TSD := fun D σ S => tv σ S fun y S1 => to σ S1 fun x S2 => match x with
  | .ref a => (match S2.hp a with
    | some (.ins C' fs) => C' = C ∧ fs.length < 1000 ∧ D.nx σ (S2.set a (.ins C (putFD f y fs)))
    | _ => False)
  | _ => False
section
variable {X : Cx} {C : Addr} {f m : Str} {e o value : Expr} {te to tv : TED} {pos apos p pos' : Pos}
/-- C(..) -/
structure HasC (P : Program) (w : World) (K : PySem.W.Frag) (mg : Str → Option Value) (base : Heap) (k : Nat) (x : Str) (C : Addr) (ps : List Str) (sp : SpD) : Prop where
  ex : ∃ f fd, mg x = some (.ref C) ∧ Mk K C f ∧ Binds K fd ps [] ∧ FnD P w K mg base k f fd ps sp
def tMakeD (C : Addr) (sp : SpD) (ta : TAD) : TED := fun σ S Q => ta σ S fun ds S1 => ∀ p, S1.hp p = none → sp (.ref p :: ds) (S1.set p (.ins C [])) fun d S2 => d = .non ∧ Q (.ref p) S2
variable {k : Nat} {x : Str} {ps : List Str} {sp : SpD} {es : List Expr} {ta : TAD}
end
end PD
end
section
/-! PD28: the classes and methods of the written part. -/
namespace PD
open PySem PySem.Spec PyProof.Rows L2
theorem HasM.of {P : Program} {w : World} {K : PySem.W.Frag} {mg : Str → Option Value} {base : Heap} {k : Nat} {C f : Addr} {m qual : Str} {st : Stmt} {fd : FuncData} {ps : List Str} {sp : SpD} (hm : Meth K C m f) (hb : Binds K fd ps []) (h : FnD P w K mg base k f fd ps sp) : HasM P w K mg base k C m ps sp := ⟨⟨f, fd, hm, hb, h⟩⟩
end PD
end
section
/-! PD29: dict displays. -/
namespace PD
open PySem PySem.Spec PyProof.Rows L2
/-- the pairs of a display -/
def tPairsD : List (TED × TED) → SD → HD → (List (Key × D) → HD → Prop) → Prop
  | [], _, S, Q => Q [] S
  | (tk, tv) :: r, σ, S, Q => tk σ S fun x S1 => tv σ S1 fun y S2 => match keyOf x with
    | some k => tPairsD r σ S2 fun ps S3 => Q ((k, y) :: ps) S3
    | none => False
def putAll (ps : List (Key × D)) (kds : List (D × D)) : List (D × D) := ps.foldl (fun acc kd => putD acc kd.1 kd.2) kds
/-- {k: v, ..}, frozen -/
def tDispV (trs : List (TED × TED)) : TED := fun σ S Q => tPairsD trs σ S fun ps S2 => ps.length ≤ 15 ∧ Q (.dic (putAll ps [])) S2
def rKV (ps : List (Key × D)) : List (D × D) := ps.map fun p => (kD p.1, p.2)
theorem pairs_up {K : PySem.W.Frag} {G : Addr → Prop} : ∀ (trs : List (TED × TED)) {σd : SD} {σ : L2.St} {S : HD} {H : Hp} {Qd : List (Key × D) → HD → Prop} {Q : List (V × V) → Hp → Prop}, RSl K G S H σd σ → RH K G S H → tPairsD trs σd S Qd →
    (∀ S' H' ps kvs, FL S H S' H' → RH K G S' H' → RDk K G S' H' (rKV ps) kvs → Qd ps S' → Q (kvs.map fun kv => (kV kv.1, kv.2)) H') → tPairs (trs.map fun t => (up K t.1, up K t.2)) σ H Q
  | [], _, _, S, H, _, _, _, rh, t, f => f S H [] [] (.refl _ _) rh .nil t
  | (tk, tv) :: r, σd, σ, S, H, _, _, rs, rh, t, f => ⟨G, σd, S, _, rs, rh, t, fun S1 x vx H1 f1 rh1 q1 t1 => ⟨G, σd, S1, _, rs.fl f1, rh1, t1, fun S2 y vy H2 f2 rh2 q2 t2 => by
      split at t2
      · rename_i k ek
        have := key_v ek q1
        subst this
        refine pairs_up r ((rs.fl f1).fl f2) rh2 t2 fun S3 H3 ps kvs f3 rh3 q3 t3 => ?_
        exact f S3 H3 ((k, y) :: ps) ((k, vy) :: kvs) (f1.trans (f2.trans f3)) rh3 (.cons (q2.fl f3) q3) t3
      · exact t2.elim⟩⟩
theorem putAll_rel {K : PySem.W.Frag} {G : Addr → Prop} {S : HD} {H : Hp} : ∀ (ps : List (Key × D)) {kvs : List (Key × V)} {acc : List (D × D)} {accv : List (Key × V)}, RDk K G S H (rKV ps) kvs → RDk K G S H acc accv → RDk K G S H (putAll ps acc) (mergeK accv kvs)
  | [], [], _, _, _, r => r
  | _ :: _, [], _, _, q, _ => by have := rdk_len q; simp [rKV] at this
  | [], _ :: _, _, _, q, _ => by have := rdk_len q; simp [rKV] at this
  | (k, d) :: ps, (k', v) :: kvs, acc, accv, q, r => by
    have q' : RDk K G S H ((kD k, d) :: rKV ps) ((k', v) :: kvs) := q
    generalize hk : kD k = kd at q'
    cases q' with
    | cons h q2 =>
      have e : k = k' := by
        have := congrArg keyOf hk
        rw [keyOf_kD, keyOf_kD] at this
        exact Option.some.inj this
      subst e
      exact putAll_rel (kvs := kvs) ps q2 (rdk_put k h r)
abbrev DPs (X : Cx) (pos : Pos) (keys : List (Option Expr)) (values : List Expr) (trs : List (TED × TED)) : Prop := PPs X pos keys values (trs.map fun t => (up X.K t.1, up X.K t.2))
section
variable {X : Cx} {pos : Pos} {keys : List (Option Expr)} {values : List Expr} {trs : List (TED × TED)} {k v : Expr} {tk tv : TED}
theorem dps_nil : DPs X pos [] [] [] := pps_nil
theorem dps_cons (hk : DE X k tk) (hv : DE X v tv) (hr : DPs X pos keys values trs) : DPs X pos (some k :: keys) (v :: values) ((tk, tv) :: trs) := pps_cons hk hv hr
end
end PD
end
section
local macro_rules | `(tactic| walk_at "rdx") => `(tactic| simp only [PD.pad, PD.gt_z, PD.gt_s, PD.st_z, PD.st_s, PD.sNextD, PD.sSeqD, PD.sBreakD, PD.sContD, PD.sDropD, PD.sRetD, PD.sRetND, PD.sIfD, PD.sNeverD, PD.sAsgD, PD.sPar2, PD.sPar3, PD.gNameD, PD.gNilD, PD.gConsD, PD.gTupD, PD.gSubD, PD.tNilD, PD.tConsD, PD.tTupD, PD.tLstV, PD.tLstR, PD.tBin, PD.tTst, PD.tAndD, PD.tOrD, PD.tNotD, PD.tIfD, PD.tAndV, PD.tOrV, PD.tNotV, PD.tUnD, PD.rNeg, PD.tCallD, PD.tSlot, PD.tCD, PD.tChainD, PD.rIsN, PD.rNotN, PD.isN, PD.rIsiD, PD.isiB, PD.Ty.name, PD.rCmpI, PD.fLt, PD.fLe, PD.fGt, PD.fGe, PD.rAddD, PD.rSubD, PD.rFdivD, PD.rModD, PD.rPowD, PD.rMulD, PD.rAddR, PD.rMulR, PD.asSeq, PD.asLst, PD.rLenD, PD.rTupleD, PD.rListV, PD.rListR, PD.rIntD, PD.rBoolD, PD.rAbsD, PD.rIxD, PD.oNone, PD.oSome, PD.tSlD, PD.rSlD, PD.tRevTD, PD.rEqD, PD.rNeD, PD.nrm, PD.iSeqD, PD.iRng1D, PD.iRng2D, PD.sForD, PD.tLcV, PD.tLcR, PD.tYesD, PD.wipeD, PD.tMethL, PD.rAppD, PD.isRefL, PD.tDicV, PD.rSetD, PD.rReprD, reduceIte, true_and, and_true, Bool.not_true, Bool.not_false, Bool.false_eq_true, List.length_cons, List.length_nil, List.set_cons_zero, List.set_cons_succ, PD.HD.set_same, PD.HD.tick_hp, PD.HD.tick_c, PD.HD.tick_dk, PD.HD.set_c, PD.HD.set_dk])
/-! PD30: the other kind of draw (5501, 2147483179, 29, 2147483423). -/
namespace PD
open PySem PySem.Spec PyProof.Rows
end PD
end
section
/-! PD31: dicts whose keys are tuples of any depth: in, [], []=, get, setdefault, len, displays. -/
namespace PD
open PySem PySem.Spec PyProof.Rows L2
/-- a key that is a tuple -/
def keyT : D → Option NestedKey
  | .tup xs => (nksOf xs).map .tup
  | _ => none
theorem keyT_nk {d : D} {k : NestedKey} (h : keyT d = some k) : nkOf d = some k := by
  cases d <;> first | cases h | skip
  exact h
theorem keyT_ref {K : PySem.W.Frag} {G : Addr → Prop} {S : HD} {H : Hp} {d : D} {v : V} {k : NestedKey} (h : keyT d = some k) (q : RD K G S H d v) : ∃ b, v = .ref b := by
  cases q <;> first | cases h | skip
  exact ⟨_, rfl⟩
def getT : List (D × D) → NestedKey → Option D
  | [], _ => none
  | (d, v) :: r, k => if nkOf d = some k then some v else getT r k
def hasT (kds : List (D × D)) (k : NestedKey) : Bool := (getT kds k).isSome
def putT (kds : List (D × D)) (kd : D) (k : NestedKey) (v : D) : List (D × D) :=
  if hasT kds k = true then kds.map (fun kv => if nkOf kv.1 = some k then (kv.1, v) else kv) else kds ++ [(kd, v)]
def tdOf (S : HD) : D → Option (World × List (D × D))
  | .ref a => (match S.hp a with
    | some (.dct w kds) => some (w, kds)
    | _ => none)
  | _ => none
section
variable {P : Program} {w : World} {K : PySem.W.Frag} {G : Addr → Prop} {S : HD} {H : Hp} {h : Heap}
mutual
theorem nested_of (ok : HOk P w H h) (hK : K.In h) : ∀ {d : D} {v : V} {u : Value} {nk : NestedKey}, RD K G S H d v → RelV v u → nkOf d = some nk → NestedIs h nk u
  | _, _, _, _, .non, r, e => by cases e; obtain rfl : _ = Value.none := r; exact .none
  | _, _, _, _, .bl b, r, e => by cases e; obtain rfl : _ = Value.bool b := r; exact .bool rfl
  | _, _, _, _, .int i, r, e => by cases e; obtain ⟨t, rfl⟩ := (show ∃ t, _ = Value.int i t from r); exact .int _ _
  | _, _, _, _, .str x, r, e => by cases e; obtain ⟨t, rfl⟩ := (show ∃ t, _ = Value.str x t from r); exact .text _ _
  | _, _, _, _, .ty n, r, e => by cases e
  | _, _, _, _, .ref a, r, e => by cases e
  | _, _, _, _, .lst _ _, r, e => by cases e
  | _, _, _, _, .dic _ _, r, e => by cases e
  | _, _, _, _, .deck _, r, e => by cases e
  | _, _, u, nk, @RD.tup _ _ _ _ a vs ds hf q, r, e => by
    have e' : (nksOf ds).map NestedKey.tup = some nk := e
    obtain ⟨ks, hks, rfl⟩ := Option.map_eq_some_iff.mp e'
    obtain rfl : u = Value.ref a := r
    rcases hf with ⟨_, rd⟩ | ⟨o, its, n, lk, hc, hd, _, vr⟩
    · obtain ⟨_, its, r', o, h1, h2, n, h3⟩ := (show ObjOk P w H h a (.tup vs) from rd.ok ok)
      exact .tup h1 h2 h3 (by simpa using nestedAll_of ok hK q r' hks)
    · exact .tup (hK _ _ lk) hc hd (nestedAll_of ok hK q vr hks)
theorem nestedAll_of (ok : HOk P w H h) (hK : K.In h) : ∀ {ds : List D} {vs : List V} {us : List Value} {ks : List NestedKey}, RDs K G S H ds vs → Vals vs us → nksOf ds = some ks → NestedAll h ks us
  | _, _, _, _, .nil, r, e => by cases e; cases r; exact .nil
  | _, _, _, ks, @RDs.cons _ _ _ _ d v ds vs q qs, r, e => by
    have e' : ((nkOf d).bind fun k => (nksOf ds).map (k :: ·)) = some ks := e
    obtain ⟨k, hk, e2⟩ := Option.bind_eq_some_iff.mp e'
    obtain ⟨ks', hks, rfl⟩ := Option.map_eq_some_iff.mp e2
    cases r with
    | cons r rs => exact .cons (nested_of ok hK q r hk) (nestedAll_of ok hK qs rs hks)
end
end
def KeyOk (K : PySem.W.Frag) (H : Hp) (nk : NestedKey) (b : Addr) : Prop := nk.depth ≤ 8 ∧ ∀ (P : Program) (w : World) (h : Heap), HOk P w H h → K.In h → NestedIs h nk (.ref b)
def KeysOk (K : PySem.W.Frag) (H : Hp) (xs : List (NestedKey × Addr × Value)) : Prop := ∀ x ∈ xs, KeyOk K H x.1 x.2.1
section
variable {K : PySem.W.Frag} {G : Addr → Prop} {S : HD} {H : Hp}
theorem keyOk_of {d : D} {b : Addr} {nk : NestedKey} (q : RD K G S H d (.ref b)) (e : nkOf d = some nk) (hd : nk.depth ≤ 8) : KeyOk K H nk b :=
  ⟨hd, fun P w h ok hK => nested_of ok hK q rfl e⟩
theorem keysOk_of : ∀ {kds : List (D × D)} {xs : List (NestedKey × Addr × Value)}, RDt K G S H kds xs → KeysOk K H xs
  | _, _, .nil => fun _ hx => nomatch hx
  | _, _, .cons hk hn hd _ _ r => fun x hx => by
    rcases List.mem_cons.mp hx with e | hx
    · subst e; exact keyOk_of hk hn hd
    · exact keysOk_of r x hx
theorem rdt_get : ∀ {kds : List (D × D)} {xs : List (NestedKey × Addr × Value)} (k : NestedKey), RDt K G S H kds xs → (getT kds k = none ∧ atKey xs k = none) ∨ ∃ d b v u, getT kds k = some d ∧ atKey xs k = some (b, u) ∧ RelV v u ∧ RD K G S H d v
  | _, _, k, .nil => .inl ⟨rfl, rfl⟩
  | _, _, k, @RDt.cons _ _ _ _ kd d nk b v u kds xs hk hn hd hv h r => by
    by_cases e : nk = k
    · subst e
      exact .inr ⟨d, b, v, u, by simp [getT, hn], by simp [atKey], hv, h⟩
    · have e1 : getT ((kd, d) :: kds) k = getT kds k := by
        simp only [getT, hn]
        exact if_neg fun q => e (Option.some.inj q)
      have e2 : atKey ((nk, b, u) :: xs) k = atKey xs k := by simp [atKey, List.find?_cons, e]
      rw [e1, e2]
      exact rdt_get k r
theorem RDt.append : ∀ {a b : List (D × D)} {c d : List (NestedKey × Addr × Value)}, RDt K G S H a c → RDt K G S H b d → RDt K G S H (a ++ b) (c ++ d)
  | _, _, _, _, .nil, s => s
  | _, _, _, _, .cons hk hn hd hv h r, s => .cons hk hn hd hv h (r.append s)
theorem rdt_len : ∀ {kds : List (D × D)} {xs : List (NestedKey × Addr × Value)}, RDt K G S H kds xs → kds.length = xs.length
  | _, _, .nil => rfl
  | _, _, .cons _ _ _ _ _ r => by simp [rdt_len r]
theorem rdt_map {k : NestedKey} {x : D} {y : V} {z : Value} (q : RD K G S H x y) (rz : RelV y z) : ∀ {kds : List (D × D)} {xs : List (NestedKey × Addr × Value)}, RDt K G S H kds xs →
    RDt K G S H (kds.map fun kv => if nkOf kv.1 = some k then (kv.1, x) else kv) (xs.map (putAt k z))
  | _, _, .nil => .nil
  | _, _, @RDt.cons _ _ _ _ kd d nk b v u kds xs hk hn hd hv h r => by
    simp only [List.map_cons, hn]
    by_cases e : nk = k
    · subst e
      simp only [if_true, putAt]
      exact .cons hk hn hd rz q (rdt_map q rz r)
    · rw [if_neg fun z => e (Option.some.inj z)]
      have e2 : putAt k z (nk, b, u) = (nk, b, u) := by simp [putAt, e]
      rw [e2]
      exact .cons hk hn hd hv h (rdt_map q rz r)
theorem rdt_put {kds : List (D × D)} {xs : List (NestedKey × Addr × Value)} {kd : D} {b : Addr} {k : NestedKey} {x : D} {y : V} {z : Value} (hk : RD K G S H kd (.ref b)) (hn : nkOf kd = some k) (hd : k.depth ≤ 8) (q : RD K G S H x y) (rz : RelV y z) (r : RDt K G S H kds xs) :
    RDt K G S H (putT kds kd k x) (storedH xs k b z) := by
  unfold putT storedH hasT
  rcases rdt_get k r with ⟨e1, e2⟩ | ⟨d, b', v, u, e1, e2, _⟩
  · rw [e1, e2]
    exact r.append (.cons hk hn hd rz q .nil)
  · rw [e1, e2]
    exact rdt_map q rz r
theorem tdOf_eq {d : D} {w : World} {kds : List (D × D)} (h : tdOf S d = some (w, kds)) : ∃ a, d = .ref a ∧ S.hp a = some (.dct w kds) := by
  cases d with
  | ref a =>
    simp only [tdOf] at h
    split at h
    · rename_i w' ys e
      cases h
      exact ⟨a, rfl, e⟩
    · cases h
  | _ => cases h
theorem tdOf_ok (rh : RH K G S H) {d : D} {v : V} {w : World} {kds : List (D × D)} (h : tdOf S d = some (w, kds)) (q : RD K G S H d v) : ∃ a xs, d = .ref a ∧ S.hp a = some (.dct w kds) ∧ v = .ref a ∧ H a = some (.ext (RawT w a xs)) ∧ RDt K G S H kds xs := by
  obtain ⟨a, rfl, e⟩ := tdOf_eq h
  cases q
  obtain ⟨_, _, xs, e1, r⟩ := rh.hp a _ e
  exact ⟨a, xs, rfl, e, rfl, e1, r⟩
end
section
variable {X : Cx} {pins : List (Addr × Obj)} {σ : L2.St} {H : Hp} {s : Shared} {a : Addr} {xs : List (NestedKey × Addr × Value)}
theorem keyAt_is (I : Inv X pins σ H s) {nk : NestedKey} {b : Addr} (k : KeyOk X.K H nk b) : (nestedKind X.prog X.w).is s.heap nk b := ⟨k.2 _ _ _ I.hok I.kIn, k.1⟩
theorem td_dict (I : Inv X pins σ H s) (e : H a = some (.ext (RawT X.w a xs))) (r : KeysOk X.K H xs) : (a == sysModules) = false ∧ xs.length ≤ sizeLine ∧ s.heap.DictOfH (nestedKind X.prog X.w) a xs := by
  obtain ⟨⟨o, es, ep, h1, h2, h3, h4, h5, h6, h7⟩, _, _⟩ := (show ObjOk X.prog X.w H s.heap a (.ext (RawT X.w a xs)) from I.hok a _ e)
  exact ⟨h6, h7, o, es, ep, h1, h2, h3, h4, fun x hx => keyAt_is I (r x hx), h5⟩
theorem raw_mono (w : World) (a : Addr) (xs : List (NestedKey × Addr × Value)) : ∀ h1 h2 : Heap, RawT w a xs h1 → (∀ o, h1.get? a = some o → h2.get? a = some o) → RawT w a xs h2 := fun _ _ ⟨o, es, ep, e, r⟩ k => ⟨o, es, ep, k o e, r⟩
theorem raw_ok {P : Program} {w : World} {H' : Hp} {h' : Heap} (hd : (a == sysModules) = false) (hz : xs.length ≤ sizeLine) (dd : h'.DictOfH (nestedKind P w) a xs) : ObjOk P w H' h' a (.ext (RawT w a xs)) := by
  obtain ⟨o, es, ep, h1, h2, h3, h4, _, h5⟩ := dd
  exact ⟨⟨o, es, ep, h1, h2, h3, h4, h5, hd, hz⟩, ⟨o, h1⟩, raw_mono w a xs⟩
theorem room_nest {k : Nat} {A : Around} {P : Program} {w : World} (hr : RoomG k A) : (nestedKind P w).room A.in1 := by
  have := hr.un64
  show A.in1.units + 8 < cLine
  rw [Around.in1_units]
  omega
end
/-! ### in -/
def rTIn (K : PySem.W.Frag) (w : World) (neg : Bool) : R2 := fun x y H Q => ∃ a b xs nk, y = .ref a ∧ x = .ref b ∧ H a = some (.ext (RawT w a xs)) ∧ KeysOk K H xs ∧ KeyOk K H nk b ∧ Q (.bl (if neg then !(atKey xs nk).isSome else (atKey xs nk).isSome)) H
def rInW (w : World) (neg : Bool) : R2D := fun x y S Q => match tdOf S y with
  | some (w', kds) => (match keyT x with
    | some nk => w' = w ∧ nk.depth ≤ 8 ∧ Q (.bl (if neg then !hasT kds nk else hasT kds nk)) S
    | none => False)
  | none => rInY neg x y S Q
section
variable {X : Cx} {o i e a b : Expr} {to ti te ta tb : TED} {pos pos' : Pos} {k : Nat}
theorem op_tIn (hr : RoomG k X.A) : OpR X (compareOp .In) (rTIn X.K X.w false) := by
  intro pins s σ H x y v u Q I rx ry ⟨a, b, xs, nk, e1, e2, h, ks, ki, q⟩
  subst e1 e2
  obtain rfl : v = Value.ref b := rx
  obtain rfl : u = Value.ref a := ry
  obtain ⟨hd, hz, dd⟩ := td_dict I h ks
  exact wpAny_in_heap (knd := nestedKind X.prog X.w) (room_nest hr) (keyAt_is I ki) hd dd ⟨.bl (atKey xs nk).isSome, H, I.tok _, rfl, q⟩
theorem op_tNotIn (hr : RoomG k X.A) : OpR X (compareOp .NotIn) (rTIn X.K X.w true) := by
  intro pins s σ H x y v u Q I rx ry ⟨a, b, xs, nk, e1, e2, h, ks, ki, q⟩
  subst e1 e2
  obtain rfl : v = Value.ref b := rx
  obtain rfl : u = Value.ref a := ry
  obtain ⟨hd, hz, dd⟩ := td_dict I h ks
  refine notIn_keyed (knd := nestedKind X.prog X.w) (room_nest hr) (keyAt_is I ki) hd ⟨xs, dd, rfl⟩ ⟨.bl (!(atKey xs nk).isSome), H, I.tok _, ?_, q⟩
  rw [valueAt_pairsH, Option.isSome_map]
  rfl
theorem inW2 {K : PySem.W.Frag} (w : World) (neg : Bool) : Op2 K (fun x y H Q => ((rIn K neg x y H Q ∨ rDIn neg x y H Q) ∨ rNoneIn neg x y H Q) ∨ rTIn K w neg x y H Q) (rInW w neg) := fun G S H d1 d2 v1 v2 Qd Q rh q1 q2 t p => by
  unfold rInW at t
  split at t
  · rename_i w' kds e
    split at t
    · rename_i nk ek
      obtain ⟨rfl, hd, t⟩ := t
      obtain ⟨a, xs, rfl, _, rfl, e1, r⟩ := tdOf_ok rh e q2
      obtain ⟨b, rfl⟩ := keyT_ref ek q1
      refine .inr ⟨a, b, xs, nk, rfl, rfl, e1, keysOk_of r, keyOk_of q1 (keyT_nk ek) hd, p.here rh ?_ t⟩
      have e3 : (atKey xs nk).isSome = hasT kds nk := by
        unfold hasT
        rcases rdt_get nk r with ⟨z1, z2⟩ | ⟨d, b', v, u, z1, z2, _⟩ <;> rw [z1, z2] <;> rfl
      rw [e3]
      exact .bl _
    · exact t.elim
  · exact .inl (inY2 neg G S H _ _ v1 v2 Qd Q rh q1 q2 t p)
theorem de_inW (hr : RoomG k X.A) (ha : DE X a ta) (hb : DE X b tb) (hm : behindInMarks .In b = false := by rfl) : DE X (.Compare a [.In] [b] pos) (tBin (rInW X.w false) ta tb) := de_cmp (((op_in_seq.or (op_inD hr.un1)).or op_noneIn).or (op_tIn hr)) (inW2 X.w false) ha hb hm
theorem dt_inW (hr : RoomG k X.A) (ha : DE X a ta) (hb : DE X b tb) (hm : behindInMarks .In b = false := by rfl) : DT X (.Compare a [.In] [b] pos) (tTst (tBin (rInW X.w false) ta tb)) := dt_cmp (((op_in_seq.or (op_inD hr.un1)).or op_noneIn).or (op_tIn hr)) (inW2 X.w false) ha hb hm
theorem dt_notInW (hr : RoomG k X.A) (ha : DE X a ta) (hb : DE X b tb) (hm : behindInMarks .NotIn b = false := by rfl) : DT X (.Compare a [.NotIn] [b] pos) (tTst (tBin (rInW X.w true) ta tb)) := dt_cmp (((op_notIn_seq.or (op_notInD hr.un1)).or op_noneNotIn).or (op_tNotIn hr)) (inW2 X.w true) ha hb hm
/-! ### [] -/
def rTIx (K : PySem.W.Frag) (w : World) : R2 := fun x y H Q => ∃ a b xs nk c u v, x = .ref a ∧ y = .ref b ∧ H a = some (.ext (RawT w a xs)) ∧ KeysOk K H xs ∧ KeyOk K H nk b ∧ atKey xs nk = some (c, u) ∧ RelV v u ∧ Q v H
theorem ix_tdict (hr : RoomG k X.A) : IxR X (rTIx X.K X.w) := by
  intro value slice pins s σ H x y v u Q I rx ry ⟨a, b, xs, nk, c, u', v', e1, e2, h, ks, ki, l, rv, q⟩ hs
  subst e1 e2
  obtain rfl : v = Value.ref a := rx
  obtain rfl : u = Value.ref b := ry
  obtain ⟨hd, hz, dd⟩ := td_dict I h ks
  exact tail_any (ops := [.ref a, .ref b]) dd.typeIs PySem.F.slot_dict_getitem.lookup (wpAny_getItem_heap (knd := nestedKind X.prog X.w) (room_nest hr) (keyAt_is I ki) dd l ⟨v', H, I.tok _, rv, q⟩) hs
def rIxW (w : World) : R2D := fun x y S Q => match tdOf S x with
  | some (w', kds) => (match keyT y with
    | some nk => w' = w ∧ nk.depth ≤ 8 ∧ (match getT kds nk with
      | some v => Q v S
      | none => False)
    | none => False)
  | none => rIxX x y S Q
theorem ixW2 {K : PySem.W.Frag} (w : World) : Op2 K (fun x y H Q => (rIx K x y H Q ∨ rDIx x y H Q) ∨ rTIx K w x y H Q) (rIxW w) := fun G S H d1 d2 v1 v2 Qd Q rh q1 q2 t p => by
  unfold rIxW at t
  split at t
  · rename_i w' kds e
    split at t
    · rename_i nk ek
      obtain ⟨rfl, hd, t⟩ := t
      obtain ⟨a, xs, rfl, _, rfl, e1, r⟩ := tdOf_ok rh e q1
      obtain ⟨b, rfl⟩ := keyT_ref ek q2
      rcases rdt_get nk r with ⟨z1, z2⟩ | ⟨d, b', v, u, z1, z2, z3, z4⟩
      · rw [z1] at t; exact t.elim
      · rw [z1] at t
        exact .inr ⟨a, b, xs, nk, b', u, v, rfl, rfl, e1, keysOk_of r, keyOk_of q2 (keyT_nk ek) hd, z2, z3, p.here rh z4 t⟩
    · exact t.elim
  · exact .inl (ixX2 G S H d1 d2 v1 v2 Qd Q rh q1 q2 t p)
theorem de_ixW (hr : RoomG k X.A) (ha : DE X a ta) (hb : DE X b tb) (hs : PlainIx b := by exact fun _ _ => rfl) : DE X (.Subscript a b pos) (tBin (rIxW X.w) ta tb) := (pe_ix ((ix_seq.or (ix_dic hr.un1)).or (ix_tdict hr)) ha hb hs).imp (up_bin (ixW2 X.w))
/-! ### []= -/
def rTSet (K : PySem.W.Frag) (w : World) : TSet := fun o i v H Q => ∃ a b xs nk, o = .ref a ∧ i = .ref b ∧ H a = some (.ext (RawT w a xs)) ∧ KeysOk K H xs ∧ KeyOk K H nk b ∧ xs.length < sizeLine ∧ ∀ u, RelV v u → Q (upd H a (.ext (RawT w a (storedH xs nk b u))))
theorem set_tdict (hr : RoomG k X.A) : PSet X (rTSet X.K X.w) := by
  intro pins s σ H o i v ov iv u Q I ro ri rv ⟨a, b, xs, nk, e1, e2, h, ks, ki, hl, q⟩
  subst e1 e2
  obtain rfl : ov = Value.ref a := ro
  obtain rfl : iv = Value.ref b := ri
  obtain ⟨hd, hz, dd⟩ := td_dict I h ks
  refine wpAny_setItem_heap (knd := nestedKind X.prog X.w) (room_nest hr) (keyAt_is I ki) dd (fun h' dd' hs => ?_) (hsz := hz)
  have he : ∃ q, h'.get? a = some q := let ⟨q, _, _, hq, _⟩ := dd'; ⟨q, hq⟩
  have hz' : (storedH xs nk b u).length ≤ sizeLine := by have := storedH_length xs nk b u; omega
  exact ⟨_, d_write I (by rw [h]; exact True.intro) hs he (raw_ok hd hz' dd'), q u rv⟩
def rSetW (w : World) (o i v : D) (S : HD) (Q : HD → Prop) : Prop := match tdOf S o with
  | some (w', kds) => (match keyT i with
    | some nk => w' = w ∧ nk.depth ≤ 8 ∧ kds.length < 16000000 ∧ (match o with
      | .ref a => Q (S.set a (.dct w (putT kds i nk v)))
      | _ => False)
    | none => False)
  | none => rSetX o i v S Q
def gSubW (w : World) (to ti : TED) : TGD := fun v σ S Q => to σ S fun o S1 => ti σ S1 fun i S2 => rSetW w o i v S2 fun S3 => Q σ S3
theorem RH.writeT {K : PySem.W.Frag} {G : Addr → Prop} {S : HD} {H : Hp} {w : World} (rh : RH K G S H) {a : Addr} {o : OD} {ys : List (D × D)} {ws : List (NestedKey × Addr × Value)} (h : S.hp a = some o) (r : RDt K G S H ys ws) : RH K G (S.set a (.dct w ys)) (upd H a (.ext (RawT w a ws))) ∧ FL S H (S.set a (.dct w ys)) (upd H a (.ext (RawT w a ws))) := by
  have m : Mv G S H G (S.set a (.dct w ys)) (upd H a (.ext (RawT w a ws))) := ⟨fun b o e z => by
    have ne : b ≠ a := fun q => by rw [← q, z.1] at h; cases h
    exact ⟨⟨by rw [HD.set_ne ne]; exact z.1, z.2.1, z.2.2⟩, by rw [upd_ne ne]; exact e⟩, fun _ e => e⟩
  exact rh.write h ⟨ws, upd_same, r.mv m⟩
theorem dg_subW (hr : RoomG k X.A) (ho : DE X o to) (hi : DE X i ti)
    (ha : ∀ v, assign (.Subscript o i pos) X.env v = (do
      let ov ← holding [v] (eval o X.env)
      let iv ← holding [v, ov] (eval i X.env)
      standAt pos
      holding [v, ov, iv] (setItem ov iv v)
      release [v, ov, iv] []) := by intro _; rfl) : DG X (.Subscript o i pos) (gSubW X.w to ti) :=
  (pg_sub ho hi (PSet.or (PSet.or set_list (set_dict hr.un1)) (set_tdict hr)) ha).imp fun v σ H Q ⟨G, σd, S, d, Qd, rs, rh, q, t, p⟩ =>
    ⟨G, σd, S, _, rs, rh, t, fun S1 d1 v1 H1 f1 rh1 q1 t1 => ⟨G, σd, S1, _, rs.fl f1, rh1, t1, fun S2 d2 v2 H2 f2 rh2 q2 t2 => by
      unfold rSetW at t2
      split at t2
      · rename_i w' kds e
        split at t2
        · rename_i nk ek
          obtain ⟨rfl, hd, hl, t2⟩ := t2
          obtain ⟨a, xs, rfl, e0, rfl, e1, r⟩ := tdOf_ok rh2 e (q1.fl f2)
          obtain ⟨b, rfl⟩ := keyT_ref ek q2
          have hlen := rdt_len r
          have hsl : (sizeLine : Nat) = 16777216 := rfl
          refine .inr ⟨a, b, xs, nk, rfl, rfl, e1, keysOk_of r, keyOk_of q2 (keyT_nk ek) hd, by omega, fun u ru => ?_⟩
          obtain ⟨rh', f'⟩ := rh2.writeT e0 (rdt_put q2 (keyT_nk ek) hd (q.fl (f1.trans f2)) ru r)
          exact p _ _ _ _ (f1.trans (f2.trans f')) rh' (rs.fl (f1.trans (f2.trans f'))) t2
        · exact t2.elim
      · rename_i hn
        clear hn
        refine .inl ?_
        unfold rSetX at t2
        split at t2
        · rename_i a
          split at t2
          · rename_i kds k e ek
            cases q1
            obtain ⟨_, _, ws, e1, r⟩ := rh2.hp _ _ e
            obtain ⟨rh', f'⟩ := rh2.writeD e (rdk_put k (q.fl (f1.trans f2)) r)
            refine .inr ⟨a, _, rfl, .inl ⟨ws, k, e1, key_v ek q2, ?_, rfl⟩, p _ _ _ _ (f1.trans (f2.trans f')) rh' (rs.fl (f1.trans (f2.trans f'))) t2.2⟩
            have := rdk_len r
            have : (sizeLine : Nat) = 16777216 := rfl
            omega
          · rename_i xs j e ek
            split at t2
            · rename_i n en
              have e2 := keyOf_eq ek
              subst e2
              cases q1
              cases q2
              obtain ⟨_, _, ws, e1, r⟩ := rh2.hp _ _ e
              obtain ⟨rh', f'⟩ := rh2.writeL e (r.set (q.fl (f1.trans f2)) n)
              exact .inl ⟨a, ws, j, n, rfl, rfl, e1, by rw [← r.length]; exact en, p _ _ _ _ (f1.trans (f2.trans f')) rh' (rs.fl (f1.trans (f2.trans f'))) t2⟩
            · exact t2.elim
          · exact t2.elim
        · exact t2.elim⟩⟩
/-! ### len -/
def rLenTD (X : Cx) (w : World) : List V → Hp → VK → Prop := fun vs H Q => ∃ (a : Addr) (xs : List (NestedKey × Addr × Value)), vs = [.ref a] ∧ H a = some (.ext (RawT w a xs)) ∧ KeysOk X.K H xs ∧ Q (.int ((xs.length : Nat) : Int)) H
theorem call_lenT : CallR X (.builtin "len") (rLenTD X X.w) := by
  intro pins s σ H xs us Q I r ⟨a, ys, e0, h, ks, q⟩
  subst e0
  obtain ⟨u, rfl, rx⟩ := vals1 r
  obtain rfl : u = .ref a := rx
  obtain ⟨hd, hz, dd⟩ := td_dict I h ks
  have hsl : (sizeLine : Nat) = 16777216 := rfl
  exact call_len_dictH (knd := nestedKind X.prog X.w) hd dd (by omega) ⟨.int ((ys.length : Nat) : Int), H, I.tok _, ⟨_, rfl⟩, q⟩
def rLenK : List V → Hp → VK → Prop := fun vs H Q => ∃ (a : Addr) (kvs : List (Key × V)), vs = [.ref a] ∧ Rd H a (.dK kvs) ∧ Q (.int ((kvs.length : Nat) : Int)) H
theorem call_lenK : CallR X (.builtin "len") rLenK := by
  intro pins s σ H xs us Q I r ⟨a, ys, e0, h, q⟩
  subst e0
  obtain ⟨u, rfl, rx⟩ := vals1 r
  obtain rfl : u = .ref a := rx
  exact d_len I h fun t s' I' => ⟨.int ((ys.length : Nat) : Int), H, I', ⟨_, rfl⟩, q⟩
def rLenW (w : World) : SpD := fun ds S Q => match ds with
  | [x] => (match tdOf S x with
    | some (w', kds) => w' = w ∧ Q (.int (kds.length : Nat)) S
    | none => (match asDic S x with
      | some kds => Q (.int (kds.length : Nat)) S
      | none => rLenD [x] S Q))
  | _ => False
theorem call_lenW : CallRD X (.builtin "len") (rLenW X.w) := by
  intro pins s σ H vs us ds G S Qd Q I rv rd rh t p
  unfold rLenW at t
  split at t
  · rename_i x
    split at t
    · rename_i w' kds e
      obtain ⟨rfl, t⟩ := t
      cases rd with
      | cons q1 r1 =>
        cases r1
        obtain ⟨a, xs, rfl, _, rfl, e1, r⟩ := tdOf_ok rh e q1
        refine call_lenT pins s σ H _ us Q I rv ⟨a, xs, rfl, e1, keysOk_of r, ?_⟩
        rw [← rdt_len r]
        exact p.here rh (.int _) t
    · split at t
      · rename_i kds e
        cases rd with
        | cons q1 r1 =>
          cases r1
          obtain ⟨a, kvs, rfl, r0, r⟩ := asDic_ok rh e q1
          refine call_lenK pins s σ H _ us Q I rv ⟨a, kvs, rfl, r0, ?_⟩
          rw [← rdk_len r]
          exact p.here rh (.int _) t
      · exact call_lenRD pins s σ H vs us _ G S Qd Q I rv rd rh t p
  · exact t.elim
end
end PD
end
section
/-! PD32: methods of dicts of any keys; displays of dicts that change. -/
namespace PD
open PySem PySem.Spec PyProof.Rows L2
/-- a dict, whatever its keys -/
def IsDV (w : World) (H : Hp) (a : Addr) : Prop := (∃ kvs, Rd H a (.dK kvs)) ∨ ∃ xs, H a = some (.ext (RawT w a xs))
section
variable {X : Cx} {pins : List (Addr × Obj)} {σ : L2.St} {H : Hp} {s : Shared} {a : Addr}
theorem isDV_at (I : Inv X pins σ H s) (d : IsDV X.w H a) : s.TypeIs (.ref a) "dict" ∧ (∀ b, Value.ref a = .ref b → ∃ ob, s.heap.get? b = some ob ∧ ob.dict = none) := by
  rcases d with ⟨kvs, e⟩ | ⟨xs, e⟩
  · obtain ⟨_, hd, vs, _, dd⟩ := dk_rd I.hok e
    refine ⟨dd.typeIs, fun b q => ?_⟩
    cases q
    obtain ⟨ob, _, _, h1, h2, _⟩ := dd
    exact ⟨ob, h1, h2.2.1⟩
  · obtain ⟨⟨o, es, ep, h1, h2, _⟩, _, _⟩ := (show ObjOk X.prog X.w H s.heap a (.ext (RawT X.w a xs)) from I.hok a _ e)
    refine ⟨⟨o, h1, h2.1⟩, fun b q => ?_⟩
    cases q
    exact ⟨o, h1, h2.2.1⟩
end
def tBMD (w : World) (r : V → List V → Hp → VK → Prop) (to : TE) (t : TA) : TE := fun σ H Q => to σ H fun x H1 => (∃ a, x = .ref a ∧ IsDV w H1 a) ∧ t σ H1 fun xs H2 => r x xs H2 Q
section
variable {X : Cx} {o e : Expr} {es : List Expr} {to : TE} {t : TA} {name : Str} {apos cpos : Pos} {id : String} {r : V → List V → Hp → VK → Prop}
theorem pe_bmD (slot : Slot "dict" name id) (hty : typeOf (.builtin id) = pure (.type "method_descriptor")) (hm : MtR X id r) (ho : PE X o to) (ha : PA X (e :: es) t)
    (hbase : attributeBase o name X.env (eval o X.env) = eval o X.env := by rfl)
    (hfew : ((backTo cpos (starEach (e :: es) X.env)).all (fun x => !x.1) && (backToKw cpos (keywordEach [] X.env)).all (fun x => x.1.isSome)
      && decide ((e :: es).length + ([] : List Keyword).length + (if ([] : List Keyword).isEmpty then 0 else 1) < 30)) = true := by rfl)
    (hline : (apos.endLine == cpos.line) = true := by rfl) (hs : starEach (e :: es) X.env = (false, eval e X.env) :: starEach es X.env := by rfl) (hplain : (backTo cpos (starEach es X.env)).any (·.1) = false := by rfl) :
    PE X (.Call (.Attribute o name apos) (e :: es) [] cpos) (tBMD X.w r to t) := by
  refine ⟨fun pins s σ H Q I h => ?_⟩
  refine wpAny_Call_method_late hbase hfew hline rfl (thn (ho.run pins s σ H _ I h) fun v s1 ⟨x, H1, I1, r1, ⟨a, ex, ty⟩, q1⟩ => ?_)
  subst ex
  obtain rfl : v = Value.ref a := r1
  obtain ⟨h1, h2⟩ := isDV_at I1 ty
  refine ⟨"dict", id, PySem.F.plainAttrs_dict, slot, hty, h1, h2, ?_⟩
  have hA := ha.run cpos pins s1 σ H1 _ I1 q1
  rw [hs] at hA ⊢
  refine Calls.callWith_builtin (by show (false || (backTo cpos (starEach es X.env)).any (·.1)) = false; rw [hplain] <;> rfl) (Calls.evalArgs_plain ?_)
  exact thn hA fun us s2 ⟨vs, H2, I2, r2, q2⟩ => hm pins s2 σ H2 (.ref a) vs (.ref a) us Q I2 rfl r2 q2
end
/-- a dict of any kind, deep -/
def isDic (w : World) (S : HD) (d : D) : Prop := (∃ kds, asDic S d = some kds) ∨ ∃ kds, tdOf S d = some (w, kds)
def tMethW (w : World) (rd : D → List D → HD → QD → Prop) (to : TED) (ta : TAD) : TED := fun σ S Q => to σ S fun x S1 => isDic w S1 x ∧ ta σ S1 fun ds S2 => rd x ds S2 Q
section
variable {K : PySem.W.Frag} {G : Addr → Prop} {S : HD} {H : Hp}
theorem isDic_ok {w : World} (rh : RH K G S H) {d : D} {v : V} (h : isDic w S d) (q : RD K G S H d v) : ∃ a, v = .ref a ∧ IsDV w H a := by
  rcases h with ⟨kds, e⟩ | ⟨kds, e⟩
  · obtain ⟨p, kvs, rfl, r0, _⟩ := asDic_ok rh e q
    exact ⟨p, rfl, .inl ⟨kvs, r0⟩⟩
  · obtain ⟨a, xs, _, _, rfl, e1, _⟩ := tdOf_ok rh e q
    exact ⟨a, rfl, .inr ⟨xs, e1⟩⟩
end
section
variable {X : Cx} {o e : Expr} {es : List Expr} {to te : TED} {tA : TAD} {name : Str} {apos cpos pos : Pos}
theorem de_methW {id : String} {r : V → List V → Hp → VK → Prop} {rd : D → List D → HD → QD → Prop} (slot : Slot "dict" name id) (hty : typeOf (.builtin id) = pure (.type "method_descriptor")) (hm : MtR X id r)
    (i : ∀ G S H d v ds vs Qd Q, RH X.K G S H → RD X.K G S H d v → RDs X.K G S H ds vs → rd d ds S Qd → Post X.K G S H Qd Q → r v vs H Q) (ho : DE X o to) (ha : DA X (e :: es) tA)
    (hbase : attributeBase o name X.env (eval o X.env) = eval o X.env := by rfl)
    (hfew : ((backTo cpos (starEach (e :: es) X.env)).all (fun x => !x.1) && (backToKw cpos (keywordEach [] X.env)).all (fun x => x.1.isSome)
      && decide ((e :: es).length + ([] : List Keyword).length + (if ([] : List Keyword).isEmpty then 0 else 1) < 30)) = true := by rfl)
    (hline : (apos.endLine == cpos.line) = true := by rfl) (hs : starEach (e :: es) X.env = (false, eval e X.env) :: starEach es X.env := by rfl) (hplain : (backTo cpos (starEach es X.env)).any (·.1) = false := by rfl) :
    DE X (.Call (.Attribute o name apos) (e :: es) [] cpos) (tMethW X.w rd to tA) :=
  (pe_bmD slot hty hm ho ha hbase hfew hline hs hplain).imp fun σ H Q ⟨G, σd, S, Qd, rs, rh, t, p⟩ => ⟨G, σd, S, _, rs, rh, t, fun S1 d v H1 f1 rh1 q1 ⟨hl, t1⟩ =>
    ⟨isDic_ok rh1 hl q1, G, σd, S1, _, rs.fl f1, rh1, t1, fun S2 ds vs H2 f2 rh2 q2 t2 => i G S2 H2 _ _ ds vs _ _ rh2 (q1.fl f2) q2 t2 (p.fl (f1.trans f2))⟩⟩
/-! ### get -/
def rGet (K : PySem.W.Frag) (w : World) : V → List V → Hp → VK → Prop := fun x vs H Q => ∃ a y z, x = .ref a ∧ (vs = [y] ∧ z = V.non ∨ vs = [y, z]) ∧
  ((∃ ov, DGet H a y ov ∧ Q (ov.getD z) H) ∨ (∃ b xs nk, y = .ref b ∧ H a = some (.ext (RawT w a xs)) ∧ KeysOk K H xs ∧ KeyOk K H nk b ∧ (∀ c u v, atKey xs nk = some (c, u) → RelV v u → Q v H) ∧ (atKey xs nk = none → Q z H) ∧ ∀ c u, atKey xs nk = some (c, u) → ∃ v, RelV v u) ∨
   ∃ kvs, y = .non ∧ Rd H a (.dK kvs) ∧ Q z H)
theorem mt_getW {k : Nat} (hr : RoomG k X.A) : MtR X "dict.get" (rGet X.K X.w) := by
  intro pins s σ H x xs v us Q I rx rs ⟨a, y, z, e1, e2, h⟩
  subst e1
  obtain rfl : v = Value.ref a := rx
  have key : ∀ (r : Value) (u : Value), RelV y u → RelV z r → (us = [u] ∧ r = Value.none ∨ us = [u, r]) → wpAny (model X.prog X.w) X.A (call (.builtin "dict.get") (.ref a :: us)) (EP X pins σ Q) X.xe s := by
    intro r u ry rz eu
    rcases h with ⟨ov, g, q⟩ | ⟨b, ys, nk, rfl, hx, ks, ki, q1, q2, q3⟩ | ⟨kvs, rfl, hx, q⟩
    · rcases eu with ⟨rfl, rfl⟩ | rfl
      · have ez : z = .non := by
          rcases e2 with ⟨_, e⟩ | e
          · exact e
          · subst e; have := rs.length; simp at this
        subst ez
        exact d_get1 hr.un1 I g ry fun w' s' I' rw' => ⟨_, H, I', rw', q⟩
      · exact d_get2 hr.un1 I g ry rz fun w' s' I' rw' => ⟨_, H, I', rw', q⟩
    · obtain rfl : u = Value.ref b := ry
      obtain ⟨hd, hz, dd⟩ := td_dict I hx ks
      have fin : EP X pins σ Q (((atKey ys nk).map (·.2)).getD r) { s with toks := s.toks + (nestedKind X.prog X.w).draws nk } := by
        cases hk : atKey ys nk with
        | none => exact ⟨z, H, I.tok _, rz, q2 hk⟩
        | some p =>
          obtain ⟨c, u⟩ := p
          obtain ⟨v', rv'⟩ := q3 c u hk
          exact ⟨v', H, I.tok _, rv', q1 c u v' hk rv'⟩
      rcases eu with ⟨rfl, rfl⟩ | rfl
      · exact call_meetsIn PySem.F.slot_dict_get dd.typeIs PySem.F.entry_dict_get (PySem.F.args_dict_get_2 _ _) (meetsH_dict_get (nestedKind X.prog X.w) a b hd) ⟨room_nest hr, nk, ys, keyAt_is I ki, dd, fin⟩
      · exact call_meetsIn PySem.F.slot_dict_get dd.typeIs PySem.F.entry_dict_get (PySem.F.args_dict_get_3 _ _ _) (meetsH_dict_get_default (nestedKind X.prog X.w) a b hd r) ⟨room_nest hr, nk, ys, keyAt_is I ki, dd, fin⟩
    · obtain rfl : u = Value.none := ry
      obtain ⟨hd, f, hm, hf⟩ := none_map I hx
      rcases eu with ⟨rfl, rfl⟩ | rfl
      · refine call_meetsIn PySem.F.slot_dict_get hm.typeIs PySem.F.entry_dict_get (PySem.F.args_dict_get_2 _ _) (meets_dict_get (leafKind X.prog X.w) a (k := Leaf.none) rfl hd) ⟨f, hm, ?_⟩
        rw [hf]
        exact ⟨z, H, I.tok _, rz, q⟩
      · refine call_meetsIn PySem.F.slot_dict_get hm.typeIs PySem.F.entry_dict_get (PySem.F.args_dict_get_3 _ _ _) (meets_dict_get_default (leafKind X.prog X.w) a (k := Leaf.none) rfl hd r) ⟨f, hm, ?_⟩
        rw [hf]
        exact ⟨z, H, I.tok _, rz, q⟩
  rcases e2 with ⟨rfl, rfl⟩ | rfl
  · obtain ⟨u, rfl, ru⟩ := rs.one
    exact key .none u ru rfl (.inl ⟨rfl, rfl⟩)
  · cases rs with
    | cons r1 rs =>
      cases rs with
      | cons r2 rs =>
        cases rs
        exact key _ _ r1 r2 (.inr rfl)
def rGetAt (w : World) (x y z : D) (S : HD) (Q : QD) : Prop := match tdOf S x with
  | some (w', kds) => (match keyT y with
    | some nk => w' = w ∧ nk.depth ≤ 8 ∧ Q ((getT kds nk).getD z) S
    | none => False)
  | none => (match asDic S x with
    | some kds => (match y with
      | .non => Q z S
      | y => (match keyOf y with
        | some k => Q ((getK kds k).getD z) S
        | none => False))
    | none => False)
def rGetW (w : World) : D → List D → HD → QD → Prop := fun x ds S Q => match ds with
  | [y] => rGetAt w x y .non S Q
  | [y, z] => rGetAt w x y z S Q
  | _ => False
theorem getAt_ok {G : Addr → Prop} {S : HD} {H : Hp} {x y z : D} {v vy vz : V} {vs : List V} {Qd : QD} {Q : VK} (rh : RH X.K G S H) (q1 : RD X.K G S H x v) (q2 : RD X.K G S H y vy) (q3 : RD X.K G S H z vz) (hv : vs = [vy] ∧ vz = V.non ∨ vs = [vy, vz]) (t : rGetAt X.w x y z S Qd) (p : Post X.K G S H Qd Q) : rGet X.K X.w v vs H Q := by
  unfold rGetAt at t
  split at t
  · rename_i w' kds e
    split at t
    · rename_i nk ek
      obtain ⟨rfl, hd, t⟩ := t
      obtain ⟨a, xs, rfl, _, rfl, e1, r⟩ := tdOf_ok rh e q1
      obtain ⟨b, rfl⟩ := keyT_ref ek q2
      refine ⟨a, _, vz, rfl, hv, .inr (.inl ⟨b, xs, nk, rfl, e1, keysOk_of r, keyOk_of q2 (keyT_nk ek) hd, ?_⟩)⟩
      rcases rdt_get nk r with ⟨z1, z2⟩ | ⟨d, b', v', u, z1, z2, z3, z4⟩
      · rw [z1] at t
        exact ⟨fun c u v' hk => (by rw [z2] at hk; cases hk), fun _ => p.here rh q3 t, fun c u hk => (by rw [z2] at hk; cases hk)⟩
      · rw [z1] at t
        refine ⟨fun c u2 v2 hk rv => ?_, fun hk => (by rw [z2] at hk; cases hk), fun c u2 hk => ?_⟩
        · rw [z2] at hk; cases hk
          have : v2 = v' := RelV.inj rv z3
          subst this
          exact p.here rh z4 t
        · rw [z2] at hk; cases hk
          exact ⟨v', z3⟩
    · exact t.elim
  · split at t
    · rename_i kds e
      obtain ⟨a, kvs, rfl, r0, r⟩ := asDic_ok rh e q1
      split at t
      · cases q2
        exact ⟨a, _, vz, rfl, hv, .inr (.inr ⟨kvs, rfl, r0, p.here rh q3 t⟩)⟩
      · split at t
        · rename_i k ek
          have := key_v ek q2
          subst this
          refine ⟨a, _, vz, rfl, hv, .inl ⟨valV kvs k, .inl ⟨kvs, k, r0, rfl, rfl⟩, ?_⟩⟩
          rcases rdk_get k r with ⟨z1, z2⟩ | ⟨d, v', z1, z2, z3⟩
          · rw [z1] at t; rw [z2]
            exact p.here rh q3 t
          · rw [z1] at t; rw [z2]
            exact p.here rh z3 t
        · exact t.elim
    · exact t.elim
theorem getW_ok : ∀ G S H d v ds vs Qd Q, RH X.K G S H → RD X.K G S H d v → RDs X.K G S H ds vs → rGetW X.w d ds S Qd → Post X.K G S H Qd Q → rGet X.K X.w v vs H Q := by
  intro G S H d v ds vs Qd Q rh q1 q2 t p
  unfold rGetW at t
  split at t
  · cases q2 with
    | cons a r => cases r; exact getAt_ok rh q1 a .non (.inl ⟨rfl, rfl⟩) t p
  · cases q2 with
    | cons a r => cases r with
      | cons b r => cases r; exact getAt_ok rh q1 a b (.inr rfl) t p
  · exact t.elim
theorem de_getW {k : Nat} (hr : RoomG k X.A) (ho : DE X o to) (ha : DA X (e :: es) tA) (hbase : attributeBase o "get" X.env (eval o X.env) = eval o X.env := by rfl)
    (hfew : ((backTo cpos (starEach (e :: es) X.env)).all (fun x => !x.1) && (backToKw cpos (keywordEach [] X.env)).all (fun x => x.1.isSome)
      && decide ((e :: es).length + ([] : List Keyword).length + (if ([] : List Keyword).isEmpty then 0 else 1) < 30)) = true := by rfl)
    (hline : (apos.endLine == cpos.line) = true := by rfl) (hs : starEach (e :: es) X.env = (false, eval e X.env) :: starEach es X.env := by rfl) (hplain : (backTo cpos (starEach es X.env)).any (·.1) = false := by rfl) :
    DE X (.Call (.Attribute o "get" apos) (e :: es) [] cpos) (tMethW X.w (rGetW X.w) to tA) := de_methW PySem.F.slot_dict_get PySem.F.type_dict_get (mt_getW hr) getW_ok ho ha hbase hfew hline hs hplain
/-! ### setdefault -/
def rSetdV (K : PySem.W.Frag) (w : World) : V → List V → Hp → VK → Prop := fun x vs H Q => ∃ a y z, x = .ref a ∧ vs = [y, z] ∧
  ((∃ kvs k, H a = some (.dK kvs) ∧ y = kV k ∧ kvs.length < sizeLine ∧ (∀ v, valV kvs k = some v → Q v H) ∧ (valV kvs k = none → Q z (upd H a (.dK (putK kvs k z))))) ∨
   (∃ b xs nk, y = .ref b ∧ H a = some (.ext (RawT w a xs)) ∧ KeysOk K H xs ∧ KeyOk K H nk b ∧ xs.length < sizeLine ∧ (∀ c u, atKey xs nk = some (c, u) → ∃ v, RelV v u ∧ Q v H) ∧ (atKey xs nk = none → ∀ u, RelV z u → Q z (upd H a (.ext (RawT w a (storedH xs nk b u)))))))
theorem mt_setdW {k : Nat} (hr : RoomG k X.A) : MtR X "dict.setdefault" (rSetdV X.K X.w) := by
  intro pins s σ H x xs v us Q I rx rs ⟨a, y, z, e1, e2, h⟩
  subst e1 e2
  obtain rfl : v = Value.ref a := rx
  cases rs with
  | @cons _ u _ _ ry rs =>
    cases rs with
    | @cons _ r _ _ rz rs =>
      cases rs
      rcases h with ⟨kvs, k, hx, rfl, hl, q1, q2⟩ | ⟨b, ys, nk, rfl, hx, ks, ki, hl, q1, q2⟩
      · exact d_setd I hx ry rz hl (fun v hv w' s' I' rw' => ⟨v, _, I', rw', q1 v hv⟩) fun hn w' s' I' rw' => ⟨z, _, I', rw', q2 hn⟩
      · obtain rfl : u = Value.ref b := ry
        obtain ⟨hd, hz, dd⟩ := td_dict I hx ks
        refine call_setdefault_heap (knd := nestedKind X.prog X.w) (room_nest hr) (keyAt_is I ki) hd dd (fun p hp => ?_) (fun hn h' dd' hs => ?_) (hsz := hz)
        · obtain ⟨c, u⟩ := p
          obtain ⟨v', rv', q⟩ := q1 c u hp
          exact ⟨v', H, I.tok _, rv', q⟩
        · have he : ∃ q, h'.get? a = some q := let ⟨q, _, _, hq, _⟩ := dd'; ⟨q, hq⟩
          have hz' : (storedH ys nk b r).length ≤ sizeLine := by have := storedH_length ys nk b r; omega
          exact ⟨z, _, d_write I (by rw [hx]; exact True.intro) hs he (raw_ok hd hz' dd'), rz, q2 hn r rz⟩
def rSetdW (w : World) : D → List D → HD → QD → Prop := fun x ds S Q => match x, ds with
  | .ref a, [y, z] => (match S.hp a with
    | some (.dct w' kds) => (match keyT y with
      | some nk => w' = w ∧ nk.depth ≤ 8 ∧ kds.length < 16000000 ∧ (match getT kds nk with
        | some v => Q v S
        | none => Q z (S.set a (.dct w (putT kds y nk z))))
      | none => False)
    | some (.dic kds) => (match keyOf y with
      | some k => kds.length < 16000000 ∧ (match getK kds k with
        | some v => Q v S
        | none => Q z (S.set a (.dic (putD kds k z))))
      | none => False)
    | _ => False)
  | _, _ => False
theorem RelV.ex {K : PySem.W.Frag} {G : Addr → Prop} {S : HD} {H : Hp} {d : D} {v : V} (q : RD K G S H d v) : True := trivial
theorem setdW_ok : ∀ G S H d v ds vs Qd Q, RH X.K G S H → RD X.K G S H d v → RDs X.K G S H ds vs → rSetdW X.w d ds S Qd → Post X.K G S H Qd Q → rSetdV X.K X.w v vs H Q := by
  intro G S H d v ds vs Qd Q rh q1 q2 t p
  have hsl : (sizeLine : Nat) = 16777216 := rfl
  unfold rSetdW at t
  split at t
  · rename_i a y z
    cases q2 with
    | cons qy r => cases r with
      | cons qz r =>
        cases r
        split at t
        · rename_i w' kds e
          split at t
          · rename_i nk ek
            obtain ⟨rfl, hd, hl, t⟩ := t
            cases q1
            obtain ⟨_, _, xs, e1, r⟩ := rh.hp a _ e
            obtain ⟨b, rfl⟩ := keyT_ref ek qy
            have hlen := rdt_len r
            refine ⟨a, _, _, rfl, rfl, .inr ⟨b, xs, nk, rfl, e1, keysOk_of r, keyOk_of qy (keyT_nk ek) hd, by omega, ?_⟩⟩
            rcases rdt_get nk r with ⟨z1, z2⟩ | ⟨d, b', v', u, z1, z2, z3, z4⟩
            · rw [z1] at t
              refine ⟨fun c u hk => (by rw [z2] at hk; cases hk), fun _ u ru => ?_⟩
              obtain ⟨rh', f'⟩ := rh.writeT e (rdt_put qy (keyT_nk ek) hd qz ru r)
              exact p _ _ _ _ f' rh' (qz.fl f') t
            · rw [z1] at t
              refine ⟨fun c u hk => ?_, fun hk => (by rw [z2] at hk; cases hk)⟩
              rw [z2] at hk; cases hk
              exact ⟨v', z3, p.here rh z4 t⟩
          · exact t.elim
        · rename_i kds e
          split at t
          · rename_i k ek
            obtain ⟨hl, t⟩ := t
            cases q1
            obtain ⟨_, _, kvs, e1, r⟩ := rh.hp a _ e
            have := key_v ek qy
            subst this
            have hlen := rdk_len r
            refine ⟨a, _, _, rfl, rfl, .inl ⟨kvs, k, e1, rfl, by omega, ?_⟩⟩
            rcases rdk_get k r with ⟨z1, z2⟩ | ⟨d, v', z1, z2, z3⟩
            · rw [z1] at t
              refine ⟨fun v' hk => (by rw [z2] at hk; cases hk), fun _ => ?_⟩
              obtain ⟨rh', f'⟩ := rh.writeD e (rdk_put k qz r)
              exact p _ _ _ _ f' rh' (qz.fl f') t
            · rw [z1] at t
              refine ⟨fun v2 hk => ?_, fun hk => (by rw [z2] at hk; cases hk)⟩
              rw [z2] at hk; cases hk
              exact p.here rh z3 t
          · exact t.elim
        · exact t.elim
  · exact t.elim
theorem de_setdW {k : Nat} (hr : RoomG k X.A) (ho : DE X o to) (ha : DA X (e :: es) tA) (hbase : attributeBase o "setdefault" X.env (eval o X.env) = eval o X.env := by rfl)
    (hfew : ((backTo cpos (starEach (e :: es) X.env)).all (fun x => !x.1) && (backToKw cpos (keywordEach [] X.env)).all (fun x => x.1.isSome)
      && decide ((e :: es).length + ([] : List Keyword).length + (if ([] : List Keyword).isEmpty then 0 else 1) < 30)) = true := by rfl)
    (hline : (apos.endLine == cpos.line) = true := by rfl) (hs : starEach (e :: es) X.env = (false, eval e X.env) :: starEach es X.env := by rfl) (hplain : (backTo cpos (starEach es X.env)).any (·.1) = false := by rfl) :
    DE X (.Call (.Attribute o "setdefault" apos) (e :: es) [] cpos) (tMethW X.w (rSetdW X.w) to tA) := de_methW PySem.F.slot_dict_setdefault PySem.F.type_dict_setdefault (mt_setdW hr) setdW_ok ho ha hbase hfew hline hs hplain
end
end PD
end
section
/-! PD33: displays of dicts that change; list(d); len(set(xs)); a dict is frozen. -/
namespace PD
open PySem PySem.Spec PyProof.Rows L2
section
variable {K : PySem.W.Frag} {G : Addr → Prop} {S S1 S2 : HD} {H H1 H2 : Hp} {q : Addr} {od : OD}
theorem res_mvT (h : S2.hp q = none) : Mv (Res G q) S2 H2 G (S2.set q od) H2 := ⟨fun a o e z => by
    have ne : a ≠ q := fun w => z.2.2 (.inr w)
    exact ⟨⟨by rw [HD.set_ne ne]; exact z.1, z.2.1, fun g => z.2.2 (.inl g)⟩, e⟩, fun _ e => e⟩
/-- the held place is tracked from now on -/
theorem res_track (rh1 : RH K G S1 H1) (hq : H1 q = none) (f2 : FL S1 H1 S2 H2) (rh2 : RH K (Res G q) S2 H2) (rod : ROD K G (S2.set q od) H2 q od) : RH K G (S2.set q od) H2 ∧ FL S1 H1 (S2.set q od) H2 := by
  have n2 := (RH.resFree rh2).1
  have d2 := (RH.resFree rh2).2
  have ngq : ¬ G q := fun g => by
    obtain ⟨⟨o, e⟩, _⟩ := rh1.rs q g
    rw [hq] at e; cases e
  refine ⟨⟨fun a u e => ?_, fun a g => rh2.rs a (.inl g), fun a b e => ?_⟩, ⟨fun a o e n d => by
    obtain ⟨n', d', e'⟩ := f2.kp a o e n d
    exact ⟨by rw [HD.set_ne (ne_of_none e hq)]; exact n', d', e'⟩, f2.dk⟩⟩
  · by_cases ha : a = q
    · subst ha
      rw [HD.set_same] at e; cases e
      exact ⟨d2, ngq, rod⟩
    · rw [HD.set_ne ha] at e
      obtain ⟨h1, h2, h3⟩ := rh2.hp a u e
      exact ⟨h1, fun g => h2 (.inl g), h3.mv (res_mvT n2) rfl⟩
  · obtain ⟨h1, h2, h3, h4⟩ := rh2.dk a b e
    have na : a ≠ q := fun z => d2 ⟨_, e, .inl z.symm⟩
    have nb : b ≠ q := fun z => d2 ⟨_, e, .inr z.symm⟩
    exact ⟨h1, by rw [HD.set_ne na]; exact h2, by rw [HD.set_ne nb]; exact h3, h4⟩
theorem res_trackD {kds : List (D × D)} {kvs : List (Key × V)} (rh1 : RH K G S1 H1) (hq : H1 q = none) (f2 : FL S1 H1 S2 H2) (rh2 : RH K (Res G q) S2 H2) (e : H2 q = some (.dK kvs)) (r : RDk K (Res G q) S2 H2 kds kvs) : RH K G (S2.set q (.dic kds)) H2 ∧ FL S1 H1 (S2.set q (.dic kds)) H2 :=
  res_track rh1 hq f2 rh2 ⟨kvs, e, r.mv (res_mvT (RH.resFree rh2).1)⟩
end
/-- a tracked dict is frozen -/
theorem Cv.frzD {a : Addr} {S : HD} {xs : List (D × D)} (h : S.hp a = some (.dic xs)) : Cv (.ref a) S (.dic xs) (S.del a) := fun K G H v r q => by
  obtain ⟨h1, h2, vs, h3, h4⟩ := r.hp a _ h
  cases q
  exact ⟨r.le (del_le S a), (del_le S a).fl, .dic ⟨⟨by simp [HD.del], fun z => h1 ((del_le S a).dkE.mp z), h2⟩, .inl h3⟩ (h4.mv (del_le S a).mv)⟩
theorem fin.frzD {Q : QD} {a : Addr} {S S' : HD} {xs : List (D × D)} (h : S'.hp a = some (.dic xs)) (l : HLe S (S'.del a)) (q : Q (.dic xs) S) : fin Q (.ref a) S' := ⟨S, _, (Cv.frzD h).trans (.le l), q⟩
/-- {k: v, ..}, a dict that is to change -/
def tDispR (trs : List (TED × TED)) : TED := fun σ S Q => tPairsD trs σ S fun ps S2 => ps.length ≤ 15 ∧ ∀ q, S2.hp q = none → Q (.ref q) (S2.set q (.dic (putAll ps [])))
section
variable {X : Cx} {pos : Pos} {keys : List (Option Expr)} {values : List Expr} {trs : List (TED × TED)} {k v : Expr} {tk tv : TED}
theorem de_dispR (h : DPs X pos keys values trs) (hall : keys.all (·.isSome) = true := by rfl) (hl : keys.length = values.length := by rfl) (h0 : keys ≠ [] := by simp) (h15 : keys.length ≤ 15 := by decide) : DE X (.Dict keys values pos) (tDispR trs) :=
  (pe_disp h hall hl h0 h15).imp fun σ H Q ⟨G, σd, S, Qd, rs, rh, t, p⟩ => fun q hq => by
    refine pairs_up trs (G := Res G q) (rs.mv (res_in hq)) (rh.res hq _) t fun S' H' ps kvs f' rh' q' ⟨hl15, t'⟩ => ?_
    have fr := RH.resFree (rh.res hq (.dK []))
    have pk := (f'.kp q _ upd_same fr.1 fr.2).2.2
    have hlen : kvs.length = ps.length := by
      have := rdk_len q'
      unfold rKV at this
      rw [List.length_map] at this
      exact this.symm
    refine ⟨pk, kvs, rfl, by omega, ?_⟩
    have f2 : FL S H S' (upd H' q (.dK (mergeK [] kvs))) := (((Grow.upd hq).fl (S := S)).trans f').updp hq
    have rr := putAll_rel ps q' (.nil (K := X.K) (G := Res G q) (S := S') (H := H'))
    have rh2 := rh'.resW (p := q) (.dK (mergeK [] kvs))
    obtain ⟨rh3, f3⟩ := res_trackD rh hq f2 rh2 upd_same (rr.mv res_mv)
    exact p _ _ _ _ f3 rh3 (.ref q) (t' q (RH.resFree rh').1)
/-- {k: v}, the key a tuple -/
def tDisp1T (w : World) (tk tv : TED) : TED := fun σ S Q => tk σ S fun x S1 => tv σ S1 fun y S2 => match keyT x with
  | some nk => nk.depth ≤ 8 ∧ ∀ q, S2.hp q = none → Q (.ref q) (S2.set q (.dct w [(x, y)]))
  | none => False
/-! ### list(d): the keys -/
def rListW (w : Bool) : SpD := fun ds S Q => match ds with
  | [.ref a] => (match S.hp a with
    | some (.dic kds) => if w = true then ∀ p, S.hp p = none → Q (.ref p) (S.set p (.lst (kds.map (·.1)))) else Q (.lst (kds.map (·.1))) S
    | _ => if w = true then rListR [.ref a] S Q else rListV [.ref a] S Q)
  | ds => if w = true then rListR ds S Q else rListV ds S Q
theorem rdk_keys {K : PySem.W.Frag} {G : Addr → Prop} {S : HD} {H : Hp} : ∀ {kds : List (D × D)} {kvs : List (Key × V)}, RDk K G S H kds kvs → RDs K G S H (kds.map (·.1)) (kvs.map fun kv => kV kv.1)
  | _, _, .nil => .nil
  | _, _, @RDk.cons _ _ _ _ k _ _ _ _ _ r => .cons (match k with | .inl i => .int i | .inr x => .str x) (rdk_keys r)
theorem call_listW (hc : X.calm = true) (w : Bool) : CallRD X (.type "list") (rListW w) := by
  intro pins s σ H vs us ds G S Qd Q I rv rd rh t p
  unfold rListW at t
  split at t
  · rename_i a
    split at t
    · rename_i kds e
      obtain ⟨_, _, kvs, e1, r⟩ := rh.hp a _ e
      cases rd with
      | cons q1 r1 =>
        cases r1
        cases q1
        refine call_list_dK hc pins s σ H _ us Q I rv ⟨a, kvs, rfl, e1, fun q hq => ?_⟩
        cases w with
        | true => exact p.newR rh (rdk_keys r) (by simpa using t) hq
        | false => exact p.newL rh (rdk_keys r) (by simpa using t) hq
    · cases w with
      | true => exact call_listR pins s σ H vs us _ G S Qd Q I rv rd rh (by simpa using t) p
      | false => exact call_listV pins s σ H vs us _ G S Qd Q I rv rd rh (by simpa using t) p
  · cases w with
    | true => exact call_listR pins s σ H vs us _ G S Qd Q I rv rd rh (by simpa using t) p
    | false => exact call_listV pins s σ H vs us _ G S Qd Q I rv rd rh (by simpa using t) p
/-! ### len(set(xs)) of whole numbers -/
/-- the items that are met first -/
def dist (ns : List Int) : List Int := ns.foldl (fun acc n => if acc.any (· == n) then acc else acc ++ [n]) []
theorem firstMet_fold (ns : List Int) : ∀ i, i ≤ ns.length → PyProof.Rows.firstMet (fun i => ns.getD i 0) i = dist (ns.take i)
  | 0, _ => rfl
  | i + 1, hi => by
    have hlt : i < ns.length := hi
    have e1 : ns.getD i 0 = ns[i] := by
      rw [List.getD_eq_getElem?_getD, List.getElem?_eq_getElem hlt] <;> rfl
    have e2 : ns.take (i + 1) = ns.take i ++ [ns[i]] := by
      rw [List.take_add_one, List.getElem?_eq_getElem hlt] <;> rfl
    have ih := firstMet_fold ns i (Nat.le_of_lt hlt)
    rw [PyProof.Rows.firstMet_succ, ih, e2]
    unfold dist
    rw [List.foldl_append, List.foldl_cons, List.foldl_nil, e1]
    rfl
def tLenSetD (te : TED) : TED := fun σ S Q => te σ S fun x S1 => match asLst S1 x with
  | some xs => (match intsOf xs with
    | some ns => ns.length ≤ 4000 ∧ Q (.int ((dist ns).length : Nat)) S1
    | none => False)
  | none => False
def tLenSetV (K : PySem.W.Frag) (ta : TE) : TE := fun σ H Q => ta σ H fun x H1 => ∃ (l : Addr) (ns : List Int), x = .ref l ∧ SqL K H1 l (ns.map V.int) ∧ ns.length ≤ 4000 ∧ Q (.int ((dist ns).length : Nat)) H1
theorem dist_le (ns : List Int) : (dist ns).length ≤ ns.length := by
  have key : ∀ (ns acc : List Int), (ns.foldl (fun acc n => if acc.any (· == n) then acc else acc ++ [n]) acc).length ≤ acc.length + ns.length := by
    intro ns
    induction ns with
    | nil => intro acc; simp
    | cons n ns ih =>
      intro acc
      rw [List.foldl_cons]
      refine Nat.le_trans (ih _) ?_
      split <;> simp <;> omega
  have := key ns []
  rw [List.length_nil, Nat.zero_add] at this
  exact this
theorem pe_lenSetV {a : Expr} {ta : TE} {p p2 q pos : Pos} (hg : Gl X "len") (hm : X.mg "len" = none) (hg2 : Gl X "set") (hm2 : X.mg "set" = none) (ha : PE X a ta) (hc : X.calm = true := by rfl)
    (na : starEach [a] X.env = (false, eval a X.env) :: starEach [] X.env := by rfl) : PE X (.Call (.Name "len" p) [.Call (.Name "set" p2) [a] [] q] [] pos) (tLenSetV X.K ta) := by
  refine ⟨fun pins s σ H Q I h => ?_⟩
  refine Call_ (ld_blt I hg hm boot_len ?_)
  refine PyProof.Rows.callWith_builtin1 (PyProof.Rows.args_cons ?_ rfl) rfl rfl
  refine Call_ (ld_blt I hg2 hm2 boot_set ?_)
  refine PyProof.Rows.callWith_type1 (PyProof.Rows.args_cons (thn (ha.run pins s σ H _ I h) fun v s1 ⟨x, H1, I1, r1, q1⟩ => PyProof.Rows.args_nil ?_) na) na rfl
  obtain ⟨l, ns, rfl, hq, hl, q1⟩ := q1
  cases r1
  obtain ⟨its, r, pl, hz⟩ := I1.list hq
  have hlen : its.toArray.size = ns.length := by rw [List.size_toArray, ← r.length, List.length_map]
  refine call_set_list (I1.ok.hd hc) pl.isList (by simpa using RZ.intsAre_vals r) (by rw [hlen]; unfold scanBound; omega) fun h' tk hS hk => ?_
  refine PyProof.Rows.args_nil ?_
  rw [hlen, firstMet_fold ns ns.length (Nat.le_refl _), List.take_length] at hS
  obtain ⟨o, es, ep, t, ho, hex, hd, _, _, _, hf, hn⟩ := hS
  have I2 : Inv X pins σ H1 { s1 with heap := h', toks := tk } := I1.kept fun b o e => hk b o (Heap.lt_size e) e
  have := dist_le ns
  exact call_len_set ho hex hd hf (by rw [hn] <;> omega) ⟨.int (dist ns).length, H1, I2.tok _, ⟨_, by rw [hn]⟩, q1⟩
theorem de_lenSet {a : Expr} {ta : TED} {p p2 q pos : Pos} (hm : X.mg "len" = none) (hm2 : X.mg "set" = none) (ha : DE X a ta) (hg : Gl X "len" := by rfl) (hg2 : Gl X "set" := by rfl) (hc : X.calm = true := by rfl)
    (na : starEach [a] X.env = (false, eval a X.env) :: starEach [] X.env := by rfl) : DE X (.Call (.Name "len" p) [.Call (.Name "set" p2) [a] [] q] [] pos) (tLenSetD ta) :=
  (pe_lenSetV hg hm hg2 hm2 ha hc na).imp fun σ H Q ⟨G, σd, S, Qd, rs, rh, t, p⟩ => ⟨G, σd, S, _, rs, rh, t, fun S1 d v H1 f1 rh1 q1 t1 => by
    split at t1
    · rename_i xs e
      split at t1
      · rename_i ns e2
        obtain ⟨a, ws, rfl, l, r⟩ := asLst_ok rh1 e q1
        rw [intsOf_eq e2] at r
        rw [rds_ints r] at l
        exact ⟨a, ns, rfl, l, t1.1, (p.fl f1).here rh1 (.int _) t1.2⟩
      · exact t1.elim
    · exact t1.elim⟩
end
end PD
end
section
/-! PD34: telling otherwise ahead of a statement; {} of any kind; a module's tuples; unpacking lists. -/
namespace PD
open PySem PySem.Spec PyProof.Rows L2
/-- the same slots, told otherwise -/
def CvS (σ : SD) (S : HD) (σ' : SD) (S' : HD) : Prop := ∀ (K : PySem.W.Frag) (G : Addr → Prop) (H : Hp) (τ : L2.St), RH K G S H → RSl K G S H σ τ → RH K G S' H ∧ FL S H S' H ∧ RSl K G S' H σ' τ
theorem CvS.refl (σ : SD) (S : HD) : CvS σ S σ S := fun _ _ _ _ r s => ⟨r, .refl _ _, s⟩
theorem CvS.trans {σ σ1 σ2 : SD} {S S1 S2 : HD} (a : CvS σ S σ1 S1) (b : CvS σ1 S1 σ2 S2) : CvS σ S σ2 S2 := fun K G H τ r s =>
  let ⟨r1, f1, s1⟩ := a K G H τ r s; let ⟨r2, f2, s2⟩ := b K G H τ r1 s1; ⟨r2, f1.trans f2, s2⟩
theorem CvS.slot {σ : SD} {S S' : HD} {i : Nat} {d d' : D} (h : gt σ i = some d) (c : Cv d S d' S') : CvS σ S (st σ i d') S' := fun K G H τ r s => by
  obtain ⟨v, h1, h2⟩ := s.sl i d (gt_some h)
  obtain ⟨r', f', q'⟩ := c K G H v r h2
  refine ⟨r', f', ?_⟩
  have s' := (s.fl f').set q' i
  rw [st_eq]
  have e : τ.set i (some v) = τ := by
    apply List.ext_getElem?
    intro j
    by_cases hj : i = j
    · subst hj
      have hi : i < τ.length := (List.getElem?_eq_some_iff.mp h1).1
      rw [List.getElem?_set_self hi, h1]
    · rw [List.getElem?_set_ne hj]
  rw [e] at s'
  exact s'
theorem CvS.frz {σ : SD} {S : HD} {i : Nat} {a : Addr} {xs : List D} (h : gt σ i = some (.ref a)) (e : S.hp a = some (.lst xs)) : CvS σ S (st σ i (.lst xs)) (S.del a) := CvS.slot h (Cv.frz e)
theorem CvS.frzD {σ : SD} {S : HD} {i : Nat} {a : Addr} {xs : List (D × D)} (h : gt σ i = some (.ref a)) (e : S.hp a = some (.dic xs)) : CvS σ S (st σ i (.dic xs)) (S.del a) := CvS.slot h (Cv.frzD e)
def sCvD (t : TSD) : TSD := fun D σ S => ∃ σ' S', CvS σ S σ' S' ∧ t D σ' S'
theorem ds_cv {X : Cx} {s : Stmt} {t : TSD} (h : DS X s t) : DS X s (sCvD t) :=
  h.imp fun D σ H ⟨G, σd, S, Dd, rs, rh, ⟨σ', S', cv, t⟩, p⟩ => let ⟨rh', f', rs'⟩ := cv _ _ _ _ rh rs; ⟨G, σ', S', Dd, rs', rh', t, p.fl f'⟩
section
variable {X : Cx} {pos : Pos} {o i e : Expr}
/-- {} with keys that are tuples -/
def tDicT (w : World) : TED := fun _ S Q => ∀ p, S.hp p = none → Q (.ref p) (S.set p (.dct w []))
theorem pe_dnewTT : PE X (.Dict [] [] pos) (fun _ H Q => ∀ p, H p = none → Q (.ref p) (upd H p (.ext (RawT X.w p [])))) := ⟨fun pins s σ H Q I h => by
  have hd : (s.heap.objs.size == sysModules) = false := beq_eq_false_iff_ne.mpr (Ne.symm (Nat.ne_of_lt I.big))
  exact wpAny_Dict_empty ⟨.ref s.heap.objs.size, _, I.laid (a := s.heap.objs.size) (o := .ext (RawT X.w s.heap.objs.size [])) (t' := s.toks) (fun _ _ q => Heap.get?_push_of_some _ q) (Nat.le_refl _)
    (raw_ok (P := X.prog) hd (Nat.zero_le _) (Heap.DictOfH.new s.heap)), rfl, h _ (I.hok.fresh (Nat.le_refl _))⟩⟩
theorem de_dicT : DE X (.Dict [] [] pos) (tDicT X.w) := pe_dnewTT.imp fun σ H Q ⟨G, σd, S, Qd, rs, rh, t, p⟩ => fun q hq => by
  obtain ⟨r', f'⟩ := rh.newR (o := .dct X.w []) (ho := .ext (RawT X.w q [])) hq ⟨[], upd_same, .nil⟩
  exact p _ _ _ _ f' r' (.ref q) (t q (rh.fresh hq).1)
def tDicW (w : World) : TED := fun σ S Q => tDicR σ S Q ∨ tDicT w σ S Q
theorem de_dicW : DE X (.Dict [] [] pos) (tDicW X.w) := ⟨fun pins s σ H Q I ⟨G, σd, S, Qd, rs, rh, t, p⟩ => t.elim (fun t => de_dicR.run pins s σ H Q I ⟨G, σd, S, Qd, rs, rh, t, p⟩) fun t => de_dicT.run pins s σ H Q I ⟨G, σd, S, Qd, rs, rh, t, p⟩⟩
/-! ### a module's tuple of flat items -/
/-! ### (a, b, ..) = a list or a tuple -/
def gSeqD (n : Nat) (t : TGsD) : TGD := fun d σ S Q => match asSeq S d with
  | some ds => ds.length = n ∧ t ds σ S Q
  | none => False
end
end PD
end
section
/-! PD35: raise, try .. except X .. of own classes without own __init__; defs that raise. -/
namespace PD
open PySem PySem.Spec PyProof.Rows L2
def sRaiseD (C : Addr) : TSD := fun D σ S => D.xr C σ S
/-! ### defs that raise -/
abbrev XD := Addr → HD → Prop
abbrev SpX := List D → HD → QD → XD → Prop
def CEX (K : PySem.W.Frag) (G : Addr → Prop) (S : HD) (H : Hp) (Xd : XD) : XK := fun cls d H' => ∃ C S', cls = .ref C ∧ d = none ∧ FL S H S' H' ∧ RH K G S' H' ∧ Xd C S'
structure FnX (P : Program) (w : World) (K : PySem.W.Frag) (mg : Str → Option Value) (base : Heap) (k : Nat) (f : Addr) (fd : FuncData) (ps : List Str) (sp : SpX) : Prop where
  len : ∀ ds S Q Y, sp ds S Q Y → ds.length = ps.length
  run : ∀ (A : Around) (outer : List Env) (s : Shared) (H : Hp) (args : Args) (us : List Value) (vs : List V) (ds : List D) (G : Addr → Prop) (S : HD) (Qd : QD) (Xd : XD), RoomG k A → Env0 P w K mg base A outer s H →
    BindsTo s fd args (ps.zip us) → Vals vs us → RDs K G S H ds vs → RH K G S H → sp ds S Qd Xd → codeAny (model P w) A (.call (.ref f) args) (CR (L2.CX P w) outer P w H s (CED K G S H Qd) (CEX K G S H Xd)) s
theorem FnX.mono {P : Program} {w : World} {K : PySem.W.Frag} {mg : Str → Option Value} {base : Heap} {j k : Nat} {f : Addr} {fd : FuncData} {ps : List Str} {sp : SpX} (F : FnX P w K mg base j f fd ps sp) (h : j ≤ k) : FnX P w K mg base k f fd ps sp :=
  ⟨F.len, fun A outer s H args us vs ds G S Qd Xd hr => F.run A outer s H args us vs ds G S Qd Xd (hr.mono h)⟩
structure HasX (P : Program) (w : World) (K : PySem.W.Frag) (mg : Str → Option Value) (base : Heap) (k : Nat) (x : Str) (ps : List Str) (sp : SpX) : Prop where
  ex : ∃ f fd, mg x = some (.ref f) ∧ PySem.W.keepIn K (.ref f) = true ∧ Binds K fd ps [] ∧ FnX P w K mg base k f fd ps sp
theorem HasX.mono {P : Program} {w : World} {K : PySem.W.Frag} {mg : Str → Option Value} {base : Heap} {j k : Nat} {x : Str} {ps : List Str} {sp : SpX} (h : HasX P w K mg base j x ps sp) (l : j ≤ k) : HasX P w K mg base k x ps sp :=
  let ⟨f, fd, a, b, c, d⟩ := h.ex; ⟨f, fd, a, b, c, d.mono l⟩
/-- an expression that may raise -/
abbrev TEX := SD → HD → QD → XD → Prop
def tCallX (sp : SpX) (ta : TAD) : TEX := fun σ S Q Y => ta σ S fun ds S1 => sp ds S1 Q Y
section
variable {X : Cx} {e : Expr} {te : TEX} {pos : Pos}
def sRetX (te : TEX) : TSD := fun D σ S => te σ S D.rt fun C S' => D.xr C σ S'
end
/-! ### a def that raises, by its body -/
def finX (Y : XD) : XD := fun C S => ∃ S', Cv .non S .non S' ∧ Y C S'
theorem finX.le {Y : XD} {C : Addr} {S S' : HD} (l : HLe S S') (q : Y C S) : finX Y C S' := ⟨S, .le l, q⟩
section
variable {P : Program} {w : World} {K : PySem.W.Frag} {mg : Str → Option Value} {base : Heap}
theorem FnX.of {x qual : Str} {st : Stmt} {f : Addr} {fd : FuncData} {N ps : List Str} {k : Nat} {sp : SpX} (F : Fun K x qual st f fd) (Sc : FnScope N ps (defScope st)) (t : TSD) (len : ∀ ds S Q Y, sp ds S Q Y → ds.length = ps.length)
    (hd : ∀ (cdv : Value) (A : Around) (outer : List Env) (s : Shared) (H : Hp) (E : XK), RoomG k (A.deeper (envOfC qual (defScope st) s.heap.objs.size f cdv)) →
      DSs (cxOf (L2.CX P w) P w K mg base N qual (defScope st) f cdv A outer s H E) (defBody st) t)
    (hq : ∀ ds S Qd Xd, sp ds S Qd Xd → t { nx := fun _ S' => fin Qd .non S', rt := fin Qd, xr := fun C _ S' => finX Xd C S' } (pad N.length ds) S) : FnX P w K mg base (k + 1) f fd ps sp := by
  obtain ⟨oc, od, kV, doc, pm, an, cdv, ct, osl, rfl, lk, hcd⟩ := F.ex
  refine ⟨len, fun A outer s H args us vs ds G S Qd Xd hr e0 hb r rd rh hsp => ?_⟩
  have hl : vs.length = ps.length := rd.length.symm.trans (len _ _ _ _ hsp)
  have KX : K.In s.heap := e0.mod.kin.keeps fun b o e => (e0.bs b o e).1
  have lim : s.heap.NoLimit := e0.mod.nolimit.keeps fun b o e => (e0.bs b o e).1
  refine codeAny_call_function hr.rm.depth (KX _ _ lk) rfl Sc.co Sc.gen rfl (PySem.W.codeRec_of KX hcd) (hb _ _ _ _ ?_)
  have hkind : ∀ y ∈ ps.zip us, (defScope st).names.lookup y.1 = some .local ∨ ((defScope st).names.lookup y.1 = some .cell ∧ ((cellsFrom (s.heap.objs.size + 1) (defScope st).names []).lookup y.1).isSome = true) := by
    rintro ⟨n, v⟩ hy
    exact (Sc.par n (List.of_mem_zip hy).1).imp id fun q => ⟨q, PySem.W.cellsFrom_some _ _ _ (.inl q)⟩
  refine wpAny_newFunctionEnv_cells Sc.kind hkind fun env he s1 x1 => ?_
  subst he
  refine ⟨lim.keeps x1.toInCall.keep, codeAny_func ?_⟩
  have I := inv_start (CX := L2.CX P w) (E := CEX K G S H Xd) Sc hr.rm.hd e0 hl r x1
  have ht := hd cdv A outer s H (CEX K G S H Xd) (hr.deeper _)
  have hq0 := hq ds S Qd Xd hsp
  have start_ok : RSl K G S H (pad N.length ds) (L2.start N vs) := by
    refine ⟨?_, fun i d e => ?_⟩
    · rw [pad_len]
      unfold L2.start
      have hpl : ps.length ≤ N.length := by have := congrArg List.length Sc.pre; rw [List.length_take] at this; omega
      simp
      omega
    · obtain ⟨v, h1, h2⟩ := pad_slots rd e
      refine ⟨v, ?_, h2⟩
      unfold L2.start
      have hi : i < vs.length := (List.getElem?_eq_some_iff.mp h1).1
      rw [List.getElem?_append_left (by simpa using hi), List.getElem?_map, h1]
      rfl
  have tk := takes_of (X := cxOf (L2.CX P w) P w K mg base N qual (defScope st) f cdv A outer s H (CEX K G S H Xd)) rfl rfl rfl (E := CEX K G S H Xd) rfl
  refine wpAny_mono (ht.run [] s1 (L2.start N vs) H { nx := fun _ H' => CED K G S H Qd .non H', rt := CED K G S H Qd } I ⟨G, _, S, _, start_ok, rh, hq0, ?_, ?_, ?_, ?_, ?_⟩) (fun fl s' hs => ?_) fun e s' hs => hs
  · exact fun S' σd σ H' f' rh' rs' ⟨S2, d2, cv, q⟩ => let ⟨r2, f2, q2⟩ := cv K G H' .non rh' .non; ⟨S2, d2, f'.trans f2, r2, q2, q⟩
  · exact fun S' d v H' f' rh' rd' ⟨S2, d2, cv, q⟩ => let ⟨r2, f2, q2⟩ := cv K G H' v rh' rd'; ⟨S2, d2, f'.trans f2, r2, q2, q⟩
  · exact fun S' σd σ H' f' rh' rs' q => q.elim
  · exact fun S' σd σ H' f' rh' rs' q => q.elim
  · exact fun C S' σd σ H' f' rh' rs' ⟨S2, cv, q⟩ => wx_le tk (let ⟨r2, f2, _⟩ := cv K G H' .non rh' .non; ⟨C, S2, rfl, rfl, f'.trans f2, r2, q⟩)
  · cases fl with
    | ret u =>
      obtain ⟨v, σ', H', J, rv, q⟩ := hs
      exact ⟨v, H', J.os, J.bare, J.base, J.hok, rv, q⟩
    | next =>
      obtain ⟨σ', H', J, q⟩ := hs
      exact ⟨V.non, H', J.os, J.bare, J.base, J.hok, rfl, q⟩
    | brk => obtain ⟨_, _, _, q⟩ := hs; exact False.elim q
    | cont => obtain ⟨_, _, _, q⟩ := hs; exact False.elim q
theorem HasX.of {x : Str} {st : Stmt} {f : Addr} {fd : FuncData} {ps : List Str} {k : Nat} {sp : SpX} (F : Fun K x x st f fd) (hm : mg x = some (.ref f)) (hb : Binds K fd ps []) (h : FnX P w K mg base k f fd ps sp) : HasX P w K mg base k x ps sp :=
  ⟨⟨f, fd, hm, F.kp, hb, h⟩⟩
end
/-! ### try -/
def noX (D : EndsD) : EndsD := { nx := D.nx, rt := D.rt, bk := D.bk, ct := D.ct, xr := fun _ _ _ => False }
/-- the clauses, one after the other -/
def hdlD (m : Addr → Addr → Option Bool) (D : EndsD) : List (Addr × TSD) → Addr → SD → HD → Prop
  | [], C, σ, S => D.xr C σ S
  | (c, t) :: r, C, σ, S => match m C c with
    | some true => t (noX D) σ S
    | some false => hdlD m D r C σ S
    | none => False
def sTryD (m : Addr → Addr → Option Bool) (tb : TSD) (hs : List (Addr × TSD)) : TSD := fun D σ S => tb { nx := D.nx, rt := D.rt, bk := D.bk, ct := D.ct, xr := hdlD m D hs } σ S
def upT' (K : PySem.W.Frag) (hs : List (Addr × TSD)) : List (Value × (Addr → Value → Option Addr → TS)) := hs.map fun q => (.ref q.1, fun _ _ _ => upS K (fun _ _ _ _ => False) q.2)
inductive HdsD (X : Cx) : List ExceptHandler → List (Addr × TSD) → Prop
  | nil : HdsD X [] []
  | cons {x : Str} {c : Addr} {t : TSD} {b₀ : Stmt} {suite : List Stmt} {np pos' : Pos} {hds : List ExceptHandler} {l : List (Addr × TSD)} (hc : L2.Names X x (.ref c)) (hsu : ∀ a pn, DSs (X.suite a pn) (b₀ :: suite) t) (r : HdsD X hds l) :
      HdsD X (.ExceptHandler (some (.Name x np)) none (b₀ :: suite) pos' :: hds) ((c, t) :: l)
theorem HdsD.ok {X : Cx} : ∀ {hds : List ExceptHandler} {l : List (Addr × TSD)}, HdsD X hds l → L2.HdsOk X hds (upT' X.K l)
  | _, _, .nil => .nil
  | _, _, .cons hc hsu r => .cons hc (fun a oe cls d pn _ _ => (hsu a ((a, oe) :: pn)).imp fun D σ H ⟨G, σd, S, Dd, rs, rh, t, p⟩ => ⟨G, σd, S, Dd, rs, rh, t, p.nx, p.rt, p.bk, p.ct, fun C S' σd σ H' f rh rs q => (p.xr C S' σd σ H' f rh rs q).elim⟩) r.ok
end PD
end
section
/-! PD36: s.ljust(n, c); methods of a written class; making one. -/
namespace PD
open PySem PySem.Spec PyProof.Rows L2
/-- C(..), with room for it -/
structure HasK (P : Program) (w : World) (K : PySem.W.Frag) (mg : Str → Option Value) (base : Heap) (k : Nat) (x : Str) (C : Addr) (ps : List Str) (sp : SpD) : Prop where
  ex : ∃ j, j + 1 ≤ k ∧ HasC P w K mg base j x C ps sp
theorem HasK.mono {P : Program} {w : World} {K : PySem.W.Frag} {mg : Str → Option Value} {base : Heap} {j k : Nat} {x : Str} {C : Addr} {ps : List Str} {sp : SpD} (h : HasK P w K mg base j x C ps sp) (l : j ≤ k) : HasK P w K mg base k x C ps sp :=
  let ⟨i, a, b⟩ := h.ex; ⟨i, Nat.le_trans a l, b⟩
section
variable {X : Cx} {o e : Expr} {es : List Expr} {to : TED} {ta : TAD} {x : Str} {C : Addr} {k : Nat} {ps : List Str} {sp : SpD} {pos apos p : Pos}
def rLjD (x : D) (ds : List D) (S : HD) (Q : QD) : Prop := match x, ds with
  | .str a, [.int i, .str f] => f.length = 1 ∧ PadOk i = true ∧ Q (.str (Txt.ljustF a i (f.cps.getD 0 0))) S
  | _, _ => False
def tMethB (r : D → List D → HD → QD → Prop) (to : TED) (ta : TAD) : TED := fun σ S Q => to σ S fun x S1 => (∃ z, x = .str z) ∧ ta σ S1 fun ds S2 => r x ds S2 Q
end
end PD
end
section
/-! PD40: functions made of lambdas: hidden while they run. -/
namespace PD
open PySem PySem.Spec PyProof.Rows L2
/-! ### what is tracked of functions, forgotten and told again -/
def HD.noclo (S : HD) : HD := { S with hp := fun a => match S.hp a with
  | some (.clo _ _ _) => none
  | o => o }
def HD.reclo (S' S : HD) : HD := { S' with hp := fun a => match S.hp a with
  | some (.clo L cl cs) => some (.clo L cl cs)
  | _ => match S'.hp a with
    | some (.clo _ _ _) => none
    | o => o }
theorem HD.ext' {S S' : HD} (h : S.hp = S'.hp) (c : S.c = S'.c) (d : S.dk = S'.dk) : S = S' := by
  cases S; cases S'; simp only at h c d; subst h; subst c; subst d; rfl
@[simp] theorem noclo_c {S : HD} : S.noclo.c = S.c := rfl
@[simp] theorem noclo_dk {S : HD} : S.noclo.dk = S.dk := rfl
@[simp] theorem reclo_c {S S' : HD} : (S'.reclo S).c = S'.c := rfl
@[simp] theorem reclo_dk {S S' : HD} : (S'.reclo S).dk = S'.dk := rfl
@[simp] theorem noclo_reclo (S : HD) : S.noclo.reclo S = S := by
  refine HD.ext' (funext fun a => ?_) rfl rfl
  unfold HD.reclo HD.noclo
  simp only
  cases h : S.hp a with
  | none => rfl
  | some o => cases o <;> rfl
@[simp] theorem noclo_tick {S : HD} {n : Nat} : (S.tick n).noclo = S.noclo.tick n := rfl
/-! ### the general way from a state to another one -/
section
variable {K : PySem.W.Frag} {G : Addr → Prop} {S S' : HD} {H H' : Hp}
/-! ### the cells of a function are hidden while it runs -/
def InC (cl : List (Str × Addr)) (b : Addr) : Prop := ∃ y, cl.lookup y = some b
variable {cl : List (Str × Addr)} {b : Addr}
variable {a : Addr} {L : LamI} {cs : List (Str × D)}
theorem CloAt.inC (t : CloAt K G S H a L cl cs) (h : InC cl b) : ∃ o u, H b = some (KnO b o) ∧ Fz G S b ∧ o.data = .cell (some u) := by
  obtain ⟨y, hy⟩ := h
  obtain ⟨d, hd⟩ := t.cell y b hy
  obtain ⟨c, o, u, v, h1, z, h2, h3, _⟩ := t.cap y d hd
  rw [hy] at h1; cases h1
  exact ⟨o, u, h2, z, h3⟩
theorem CloAt.out (t : CloAt K G S H a L cl cs) {o : HO} (e : H b = some o) (n : ¬ Kn o) : ¬ InC cl b := fun q => by
  obtain ⟨o', u, e', _⟩ := t.inC q
  rw [e] at e'; cases e'
  exact n True.intro
end
end PD
end
section
/-! PD41: values that are called; a lambda by its body. -/
namespace PD
open PySem PySem.Spec PyProof.Rows L2
/-- the value at g can be called -/
def Calls' (P : Program) (w : World) (g : Addr) (h : Heap) : Prop := ∃ k, (k = Keeper.frame ∨ k = Keeper.machine ∨ k = Keeper.boundFrame) ∧ PySem.W.Looks (model P w) h (keeperOf (.ref g)) k
/-- what calls of values do -/
structure HasV (P : Program) (w : World) (K : PySem.W.Frag) (mg : Str → Option Value) (base : Heap) (k : Nat) (fv : Addr → SpD) : Prop where
  at_ : ∀ (g : Addr) (ds : List D) (S : HD) (Q : QD) (G : Addr → Prop) (H : Hp) (s : Shared), fv g ds S Q → RH K G S H → HOk P w H s.heap → K.In s.heap → Calls' P w g s.heap
  run : ∀ (g : Addr) (A : Around) (outer : List Env) (s : Shared) (H : Hp) (us : List Value) (vs : List V) (ds : List D) (G : Addr → Prop) (S : HD) (Qd : QD), RoomG k A → Env0 P w K mg base A outer s H →
    Vals vs us → RDs K G S H ds vs → RH K G S H → fv g ds S Qd → codeAny (model P w) A (.call (.ref g) ⟨us, []⟩) (CR CX0 outer P w H s (CED K G S H Qd) E0) s
theorem HasV.mono {P : Program} {w : World} {K : PySem.W.Frag} {mg : Str → Option Value} {base : Heap} {j k : Nat} {fv : Addr → SpD} (h : HasV P w K mg base j fv) (l : j ≤ k) : HasV P w K mg base k fv :=
  ⟨h.at_, fun g A outer s H us vs ds G S Qd hr => h.run g A outer s H us vs ds G S Qd (hr.mono l)⟩
theorem HasV.or {P : Program} {w : World} {K : PySem.W.Frag} {mg : Str → Option Value} {base : Heap} {k : Nat} {fv fv' : Addr → SpD} (h : HasV P w K mg base k fv) (h' : HasV P w K mg base k fv') : HasV P w K mg base k (fun g ds S Q => fv g ds S Q ∨ fv' g ds S Q) :=
  ⟨fun g ds S Q G H s q => q.elim (h.at_ g ds S Q G H s) (h'.at_ g ds S Q G H s), fun g A outer s H us vs ds G S Qd hr e v r rh q => q.elim (h.run g A outer s H us vs ds G S Qd hr e v r rh) (h'.run g A outer s H us vs ds G S Qd hr e v r rh)⟩
theorem HasV.imp {P : Program} {w : World} {K : PySem.W.Frag} {mg : Str → Option Value} {base : Heap} {k : Nat} {fv fv' : Addr → SpD} (h : HasV P w K mg base k fv) (i : ∀ g ds S Q, fv' g ds S Q → fv g ds S Q) : HasV P w K mg base k fv' :=
  ⟨fun g ds S Q G H s q => h.at_ g ds S Q G H s (i _ _ _ _ q), fun g A outer s H us vs ds G S Qd hr e v r rh q => h.run g A outer s H us vs ds G S Qd hr e v r rh (i _ _ _ _ q)⟩
theorem HasV.never {P : Program} {w : World} {K : PySem.W.Frag} {mg : Str → Option Value} {base : Heap} {k : Nat} : HasV P w K mg base k (fun _ _ _ _ => False) :=
  ⟨fun _ _ _ _ _ _ _ q => q.elim, fun _ _ _ _ _ _ _ _ _ _ _ _ _ _ _ _ q => q.elim⟩
/-- e(..), e any expression that is neither a name of a def nor a method -/
def tCallE (tf : TED) (fv : Addr → SpD) (ta : TAD) : TED := fun σ S Q => tf σ S fun d S1 => match d with
  | .ref g => ta σ S1 fun ds S2 => fv g ds S2 Q
  | _ => False
/-! ### where a lambda stands in the text -/
/-! ### a lambda by its body -/
end PD
end
section
/-! PD42: lambdas made in a def and handed to a call. -/
namespace PD
open PySem PySem.Spec PyProof.Rows L2
/-- a function that was made of a lambda and is not told of yet -/
def Raw (X : Cx) (G : Addr → Prop) (S : HD) (H : Hp) (g : Addr) (L : LamI) : Prop :=
  ∃ c' pm ctv, H g = some (KnO g (L.obj (cloFrom X.env.cells L.scope.names []) pm c' ctv)) ∧ Fz G S g ∧ Fz G S c' ∧ H c' = some (LamX.CodeO c' L.qual)
theorem Raw.fl {X : Cx} {G : Addr → Prop} {S S' : HD} {H H' : Hp} {g : Addr} {L : LamI} (r : Raw X G S H g L) (f : FL S H S' H') : Raw X G S' H' g L := by
  obtain ⟨c', pm, ctv, h1, z1, z2, h2⟩ := r
  exact ⟨c', pm, ctv, (f.mv.kp g _ h1 z1).2, (f.mv.kp g _ h1 z1).1, (f.mv.kp c' _ h2 z2).1, (f.mv.kp c' _ h2 z2).2⟩
/-! ### arguments with lambdas among them -/
/-- a lambda that was made: its place, what it is made of, what it captures (with the slots) -/
structure LamG where
  g : Addr
  L : LamI
  cp : List (Str × Nat)
abbrev TADL := SD → HD → (List D → List LamG → HD → Prop) → Prop
structure CapOk (X : Cx) (L : LamI) (cp : List (Str × Nat)) : Prop where
  at_ : ∀ p ∈ cp, X.N[p.2]? = some p.1 ∧ (X.env.scope.names.lookup p.1 = some .cell ∨ X.env.scope.names.lookup p.1 = some .free) ∧ L.scope.names.lookup p.1 = some .free
  all : ∀ y ∈ L.scope.names, y.2 = .free → ∃ i, (y.1, i) ∈ cp
  nd : (cp.map (·.1)).Nodup
theorem CapOk.has {X : Cx} {L : LamI} {cp : List (Str × Nat)} (h : CapOk X L cp) (ok : X.Ok) : ∀ y ∈ L.scope.names, y.2 = .free → ∃ c, X.env.cells.lookup y.1 = some c := fun y hy e => by
  obtain ⟨i, hi⟩ := h.all y hy e
  exact ok.has _ (h.at_ _ hi).2.1
def tNilL : TADL := fun _ S Q => Q [] [] S
def tConsL (te : TED) (tr : TADL) : TADL := fun σ S Q => te σ S fun d S1 => tr σ S1 fun ds ls S2 => Q (d :: ds) ls S2
def tLamL (P : Addr) (L : LamI) (cp : List (Str × Nat)) (tr : TADL) : TADL := fun σ S Q => S.hp P = some (.tab L.qual) ∧ ∀ g, S.hp g = none → tr σ S fun ds ls S2 => Q (.ref g :: ds) (⟨g, L, cp⟩ :: ls) S2
end PD
end
section
/-! PD43: calls that are handed lambdas. -/
namespace PD
open PySem PySem.Spec PyProof.Rows L2
/-- the captured values -/
def capD (σ : SD) (cp : List (Str × Nat)) : List (Str × D) := cp.filterMap fun p => (gt σ p.2).map fun d => (p.1, d)
/-- the lambdas are told of -/
def tell (cl : LamI → List (Str × Addr)) (σ : SD) (ls : List LamG) (S : HD) : HD := ls.foldl (fun S p => S.set p.g (.clo p.L (cl p.L) (capD σ p.cp))) S
open Classical in
/-- functions that were not told of ahead are forgotten -/
noncomputable def HD.keepclo (S' S : HD) : HD := { S' with hp := fun a => match S'.hp a with
  | some (.clo L cl cs) => if S.hp a = some (.clo L cl cs) then some (.clo L cl cs) else none
  | o => o }
@[simp] theorem keepclo_c {S S' : HD} : (S'.keepclo S).c = S'.c := rfl
@[simp] theorem keepclo_dk {S S' : HD} : (S'.keepclo S).dk = S'.dk := rfl
@[simp] theorem keepclo_self (S : HD) : S.keepclo S = S := by
  refine HD.ext' (funext fun a => ?_) rfl rfl
  unfold HD.keepclo
  dsimp only
  cases e : S.hp a with
  | none => rfl
  | some u =>
    cases u with
    | clo L cl cs => exact if_pos rfl
    | _ => rfl
theorem tell_none {cl : LamI → List (Str × Addr)} {σ : SD} {a : Addr} : ∀ {ls : List LamG} {S : HD}, (∀ p ∈ ls, p.g ≠ a) → (tell cl σ ls S).hp a = S.hp a
  | [], _, _ => rfl
  | p :: ls, S, h => (tell_none (ls := ls) fun q hq => h q (List.mem_cons_of_mem _ hq)).trans (HD.set_ne fun e => h p List.mem_cons_self e.symm)
@[simp] theorem tell_c {cl : LamI → List (Str × Addr)} {σ : SD} : ∀ {ls : List LamG} {S : HD}, (tell cl σ ls S).c = S.c
  | [], _ => rfl
  | p :: ls, S => (tell_c (ls := ls)).trans rfl
@[simp] theorem tell_dk {cl : LamI → List (Str × Addr)} {σ : SD} : ∀ {ls : List LamG} {S : HD}, (tell cl σ ls S).dk = S.dk
  | [], _ => rfl
  | p :: ls, S => (tell_dk (ls := ls)).trans rfl
theorem capD_mem {σ : SD} {cp : List (Str × Nat)} {y : Str} {d : D} (h : (capD σ cp).lookup y = some d) : ∃ i, (y, i) ∈ cp ∧ gt σ i = some d := by
  have hm := PySem.mem_of_lookup h
  unfold capD at hm
  obtain ⟨⟨y', i⟩, h1, h2⟩ := List.mem_filterMap.mp hm
  cases e : gt σ i with
  | none => simp [e] at h2
  | some d' =>
    simp only [e, Option.map_some, Option.some.injEq, Prod.mk.injEq] at h2
    obtain ⟨rfl, rfl⟩ := h2
    exact ⟨i, h1, e⟩
theorem capD_has {σ : SD} {cp : List (Str × Nat)} {y : Str} {i : Nat} {d : D} (h : (y, i) ∈ cp) (e : gt σ i = some d) : ∃ d', (capD σ cp).lookup y = some d' := by
  have hm : (y, d) ∈ capD σ cp := List.mem_filterMap.mpr ⟨(y, i), h, by simp [e]⟩
  exact L2.mem_lookup hm
open Classical in
/-- the frame's cells are known -/
noncomputable def revC (X : Cx) (s : Shared) (H : Hp) : Hp := fun b => if InC X.env.cells b then (s.heap.get? b).map (KnO b) else H b
theorem CloAt.gen {K : PySem.W.Frag} {G : Addr → Prop} {S S' : HD} {H H' : Hp} {a : Addr} {L : LamI} {cl : List (Str × Addr)} {cs : List (Str × D)} (t : CloAt K G S H a L cl cs) (m : Mv0 G S H G S' H') (ha : H' a = H a)
    (hc : ∀ c o u, InC cl c → H c = some (KnO c o) → o.data = .cell (some u) → Fz G S c → Fz G S' c ∧ H' c = H c) : CloAt K G S' H' a L cl cs := by
  refine ⟨?_, fun y d hd => ?_, t.cell, t.inj, t.free⟩
  · obtain ⟨c', pm, ctv, h1, z, h2⟩ := t.fn
    obtain ⟨k1, k2⟩ := m.kp c' _ h2 id z
    exact ⟨c', pm, ctv, ha.trans h1, k1, k2⟩
  · obtain ⟨c, o, u, v, h1, z, h2, h3, h4, h5⟩ := t.cap y d hd
    obtain ⟨k1, k2⟩ := hc c o u ⟨y, h1⟩ h2 h3 z
    exact ⟨c, o, u, v, h1, k1, k2.trans h2, h3, h4, h5.mv0 m⟩
section
variable {X : Cx} {pins : List (Addr × Obj)} {σ : L2.St} {σd : SD} {H : Hp} {s : Shared} {G : Addr → Prop} {S : HD} {ls : List LamG}
theorem clo_look {cells : List (Str × Addr)} {names : List (Str × NameKind)} (hf : ∀ y ∈ names, y.2 = .free → ∃ c, cells.lookup y.1 = some c) {y : Str} : (∀ c, (cloFrom cells names []).lookup y = some c → cells.lookup y = some c ∧ (y, NameKind.free) ∈ names) ∧ ((y, NameKind.free) ∈ names → ∃ c, (cloFrom cells names []).lookup y = some c) := by
  refine ⟨fun c e => ?_, fun h => L2.mem_lookup (cloFrom_has h)⟩
  rcases cloFrom_mem (PySem.mem_of_lookup e) with hm | ⟨h1, h2⟩
  · cases hm
  · obtain ⟨c1, hc⟩ := hf _ h1 rfl
    have hc : cells.lookup y = some c1 := hc
    rw [hc] at h2
    have h2 : c = c1 := h2
    exact ⟨h2 ▸ hc, h1⟩
/-- what is needed to tell of the lambdas -/
structure Way (X : Cx) (pins : List (Addr × Obj)) (σ : L2.St) (σd : SD) (H : Hp) (s : Shared) (G : Addr → Prop) (S : HD) (ls : List LamG) : Prop where
  I : Inv X pins σ H s
  rh : RH X.K G S H
  rs : RSl X.K G S H σd σ
  raw : ∀ p ∈ ls, Raw X G S H p.g p.L
  cap : ∀ p ∈ ls, CapOk X p.L p.cp
  nd : (ls.map (·.g)).Nodup
  full : ∀ p ∈ ls, ∀ q ∈ p.cp, ∃ d, gt σd q.2 = some d
  fn : ∀ y, X.fn y = true
abbrev clX (X : Cx) : LamI → List (Str × Addr) := fun L => cloFrom X.env.cells L.scope.names []
variable (W : Way X pins σ σd H s G S ls)
include W
theorem Way.cell {b : Addr} (h : InC X.env.cells b) : H b = none ∧ S.hp b = none ∧ ¬ Dk S b ∧ ¬ G b ∧ ∃ o v, s.heap.get? b = some o ∧ o.data = .cell v ∧ revC X s H b = some (KnO b o) := by
  obtain ⟨y, hy⟩ := h
  have n := W.I.freeC y b hy
  obtain ⟨v, o, e, d⟩ := W.I.cell y b hy
  obtain ⟨h1, h2, h3⟩ := W.rh.fresh n
  refine ⟨n, h1, h2, h3, o, v, e, d, ?_⟩
  unfold revC
  rw [if_pos ⟨y, hy⟩, e]; rfl
theorem Way.out {b : Addr} {o : HO} (e : H b = some o) : ¬ InC X.env.cells b := fun q => by rw [(W.cell q).1] at e; cases e
theorem Way.rev {b : Addr} {o : HO} (e : H b = some o) : revC X s H b = some o := (if_neg (W.out e)).trans e
theorem Way.g_ne {b : Addr} {o : HO} (e : H b = some o) (n : ¬ Kn o) : ∀ p ∈ ls, p.g ≠ b := fun p hp q => by
  obtain ⟨_, _, _, h1, _⟩ := W.raw p hp
  rw [q, e] at h1; cases h1
  exact n True.intro
theorem Way.mv : Mv0 G S H G (tell (clX X) σd ls S) (revC X s H) := by
  refine ⟨fun b o e n z => ⟨⟨(tell_none (W.g_ne e n)).trans z.1, ?_, z.2.2⟩, W.rev e⟩, fun p e => by rw [tell_dk]; exact e⟩
  have := z.2.1
  unfold Dk at this ⊢
  rwa [tell_dk]
theorem Way.dkE {b : Addr} : Dk (tell (clX X) σd ls S) b ↔ Dk S b := by unfold Dk; rw [tell_dk]
theorem Way.look (p : LamG) (hp : p ∈ ls) : ∀ y ∈ p.L.scope.names, y.2 = .free → ∃ c, X.env.cells.lookup y.1 = some c := (W.cap p hp).has W.I.ok
theorem Way.clo (p : LamG) (hp : p ∈ ls) : CloAt X.K G (tell (clX X) σd ls S) (revC X s H) p.g p.L (clX X p.L) (capD σd p.cp) := by
  have co := W.cap p hp
  have lk := fun y => clo_look (W.look p hp) (y := y)
  refine ⟨?_, fun y d hd => ?_, fun y c hc => ?_, fun x y c h1 h2 => ?_, fun y hy => ?_⟩
  · obtain ⟨c', pm, ctv, h1, z1, z2, h2⟩ := W.raw p hp
    exact ⟨c', pm, ctv, W.rev h1, (W.mv.kp c' _ h2 id z2).1, W.rev h2⟩
  · obtain ⟨i, hi, hg⟩ := capD_mem hd
    obtain ⟨hN, hk, hl⟩ := co.at_ _ hi
    obtain ⟨v, hv, rd⟩ := W.rs.sl i d (gt_some hg)
    obtain ⟨m, hn, hloc⟩ := W.I.loc
    obtain ⟨u, rv, q⟩ := hloc i y v hN hv (hk.elim (fun z => .inr (.inl z)) fun z => .inr (.inr z))
    rcases q with ⟨k', _⟩ | ⟨_, c, e', o, ho, hd'⟩
    · have k' : X.env.scope.names.lookup y = some .local := k'
      rcases hk with hk | hk <;> rw [show X.env.scope.names.lookup y = _ from hk] at k' <;> cases k'
    · obtain ⟨c2, h2⟩ := (lk y).2 (PySem.mem_of_lookup hl)
      have h3 := ((lk y).1 c2 h2).1
      rw [e'] at h3
      cases h3
      obtain ⟨n1, n2, n3, n4, o', v', e1, _, e2⟩ := W.cell ⟨y, e'⟩
      rw [ho] at e1
      cases e1
      refine ⟨c, o, u, v, h2, ⟨(tell_none fun q hq z => ?_).trans n2, fun z => n3 (W.dkE.mp z), n4⟩, e2, hd', rv, rd.mv0 W.mv⟩
      obtain ⟨_, _, _, h1, _⟩ := W.raw q hq
      rw [z, n1] at h1; cases h1
  · obtain ⟨_, hy⟩ := (lk y).1 c hc
    obtain ⟨i, hi⟩ := co.all _ hy rfl
    obtain ⟨d, hd⟩ := W.full p hp _ hi
    exact capD_has hi hd
  · exact W.I.ok.inj x y c ((lk x).1 c h1).1 ((lk y).1 c h2).1
  · exact (lk y).2 (PySem.mem_of_lookup hy)
theorem Way.hok : HOk X.prog X.w (revC X s H) s.heap := fun b u e => by
  by_cases h : InC X.env.cells b
  · obtain ⟨_, _, _, _, o, v, e1, _, e2⟩ := W.cell h
    rw [e2] at e
    cases e
    exact ⟨e1, o, e1⟩
  · have e' : H b = some u := (if_neg h).symm.trans e
    exact (W.I.hok b u e').stay (fun _ _ _ q => q) (fun d q => W.rev q) fun d xs q => W.rev q
theorem Way.nbase {b : Addr} (h : InC X.env.cells b) : X.s_0.heap.objs.size ≤ b := by
  obtain ⟨y, hy⟩ := h
  exact W.I.ok.cab y b (W.fn y) hy
theorem Way.nfr {b : Addr} (h : InC X.env.cells b) : b ∉ frs X.stack := fun hb => by
  rcases List.mem_cons.mp (W.I.stkSub b hb) with e | e
  · obtain ⟨y, hy⟩ := h
    exact W.I.cne y b hy e
  · obtain ⟨_, o, ho, _⟩ := W.I.ok.funs.mem e
    exact absurd (Heap.lt_size ho) (Nat.not_lt.mpr (W.nbase h))
theorem Way.env : Env0 X.prog X.w X.K X.mg X.base X.A X.stack s (revC X s H) := by
  have e0 := W.I.env0
  refine ⟨e0.frames, e0.mod, fun b o e => ⟨(e0.bs b o e).1, ?_⟩, e0.bsz, e0.funs, fun b hb => ?_, W.hok, e0.bare⟩
  · have nb : ¬ InC X.env.cells b := fun q => absurd (Heap.lt_size e) (Nat.not_lt.mpr (Nat.le_trans W.I.ok.bsz (W.nbase q)))
    exact (if_neg nb).trans (e0.bs b o e).2
  · exact (if_neg fun q => W.nfr q hb).trans (e0.frf b hb)
end
/-- f(.., lambda ..: .., ..) -/
def tCallL (sp : SpD) (ta : TADL) : TED := fun σ S Q => ta σ S fun ds ls S1 => (∀ p ∈ ls, ∀ q ∈ p.cp, ∃ d, gt σ q.2 = some d) ∧ ((∀ p ∈ ls, S1.hp p.g = none) → (ls.map (·.g)).Nodup → ∀ cl, sp ds (tell cl σ ls S1) fun d S' => Q d (S'.keepclo S1))
end PD
end
section
/-! PD44: defs that make lambdas; the law's end with their tables. -/
namespace PD
open PySem PySem.Spec PyProof.Rows L2
/-- a def of the module whose code is c, with the table P -/
structure DefT (K : PySem.W.Frag) (mg : Str → Option Value) (x : Str) (st : Stmt) (c P : Addr) : Prop where
  ex : ∃ f fd, Fun K x x st f fd ∧ mg x = some (.ref f) ∧ fd.code = .ref c
  ht : PySem.W.tabIn K x = some (c, P)
theorem DefT.of {K : PySem.W.Frag} {mg : Str → Option Value} {x : Str} {st : Stmt} {c P : Addr} (D : DefT K mg x st c P) : DefOf K mg x st := let ⟨f, fd, F, hm, _⟩ := D.ex; ⟨f, fd, F, hm⟩
end PD
end
section
/-! PD45: len(set(xs)) of texts. -/
namespace PD
open PySem PySem.Spec PyProof.Rows L2
end PD
end
section
/-! PD46: == where an empty dict is on a side. -/
namespace PD
open PySem PySem.Spec PyProof.Rows L2
end PD
end
section
/-! PD47: a sign in a text. -/
namespace PD
open PySem PySem.Spec PyProof.Rows L2
/-- one sign -/
def signOf (x : Str) : Option Nat := match x.cps.toList with
  | [c] => some c
  | _ => none
theorem signOf_eq {x : Str} {c : Nat} (h : signOf x = some c) : x = ⟨#[c]⟩ := by
  unfold signOf at h
  split at h
  · rename_i e
    cases h
    obtain ⟨a⟩ := x
    have e : a.toList = [c] := e
    exact congrArg Str.mk (Array.toList_inj.mp (e.trans rfl))
  · cases h
def rInZ (neg : Bool) : R2D := fun x y S Q => match x, y with
  | .str a, .str z => (match signOf a with
    | some c => Q (.bl (if neg then !decide (c ∈ z.cps.toList) else decide (c ∈ z.cps.toList))) S
    | none => False)
  | x, y => rInY neg x y S Q
section
variable {X : Cx} {a b : Expr} {ta tb : TED} {pos : Pos}
theorem inZ2 {K : PySem.W.Frag} (neg : Bool) : Op2 K (fun x y H Q => ((rIn K neg x y H Q ∨ rDIn neg x y H Q) ∨ rNoneIn neg x y H Q) ∨ ∃ (c : Nat) (z : Str), x = .str ⟨#[c]⟩ ∧ y = .str z ∧ Q (.bl (if neg then !decide (c ∈ z.cps.toList) else decide (c ∈ z.cps.toList))) H) (rInZ neg) := fun G S H d1 d2 v1 v2 Qd Q rh q1 q2 t p => by
  unfold rInZ at t
  split at t
  · rename_i a z
    split at t
    · rename_i c e
      have := signOf_eq e
      subst this
      cases q1; cases q2
      exact .inr ⟨c, z, rfl, rfl, p.here rh (.bl _) t⟩
    · exact t.elim
  · exact .inl (inY2 neg G S H _ _ v1 v2 Qd Q rh q1 q2 t p)
theorem dt_notInZ {k : Nat} (hr : RoomG k X.A) (ha : DE X a ta) (hb : DE X b tb) (hm : behindInMarks .NotIn b = false := by rfl) : DT X (.Compare a [.NotIn] [b] pos) (tTst (tBin (rInZ true) ta tb)) := dt_cmp (((op_notIn_seq.or (op_notInD hr.un1)).or op_noneNotIn).or op_notIn_sign) (inZ2 true) ha hb hm
end
end PD
end
section
/-! PD48: extend by a list or a tuple. -/
namespace PD
open PySem PySem.Spec PyProof.Rows L2
open AutoSeq1 (wpAny_loadPart')
section
variable {X : Cx} {o e a b : Expr} {to te ta tb : TED} {apos cpos pos : Pos}
/-- xs.extend(ys), a list or a tuple -/
def rExtX : D → List D → HD → QD → Prop := fun x ds S Q => match x, ds with
  | .ref a, [y] => (match S.hp a, asSeq S y with
    | some (.lst xs), some zs => xs.length + zs.length ≤ sizeLine ∧ Q .non (S.set a (.lst (xs ++ zs)))
    | _, _ => False)
  | _, _ => False
end
end PD
end
section
/-! PD49: the tuple of a text's signs. -/
namespace PD
open PySem PySem.Spec PyProof.Rows L2
/-- tuple(x), of a text too -/
def rTupleX : SpD := fun ds S Q => match ds with
  | [.str z] => z.length ≤ sizeLine ∧ Q (.tup (signsD z)) S
  | ds => rTupleD ds S Q
end PD
end
section
/-! PD50: a def that makes functions, from the written part. -/
namespace PD
open PySem PySem.Spec PyProof.Rows L2
end PD
end
section
/-! PD51: zip with one name as target. -/
namespace PD
open PySem PySem.Spec PyProof.Rows L2
open Sem (wp)
end PD
end
section
/-! PD52: zip with one name as target, in loops and comprehensions. -/
namespace PD
open PySem PySem.Spec PyProof.Rows L2
end PD
end
section
/-! PD53: (a, b) = a text of as many signs. -/
namespace PD
open PySem PySem.Spec PyProof.Rows L2
/-- (a, b, ..) = a list, a tuple or a text -/
def gUnpD (n : Nat) (t : TGsD) : TGD := fun d σ S Q => match d with
  | .str z => (signsD z).length = n ∧ t (signsD z) σ S Q
  | d => gSeqD n t d σ S Q
end PD
end
section
/-! PD54: tuples in lists, and their places. -/
namespace PD
open PySem PySem.Spec PyProof.Rows L2
def okP (d : D) : Bool := okE d && decide (dep d ≤ 8)
def rInP (neg : Bool) : R2D := fun x y S Q => match x, asSeq S y with
  | .tup zs, some xs => (okP (.tup zs) = true ∧ xs.all okP = true) ∧ Q (.bl (if neg then !(xs.any fun d => eqd d (.tup zs)) else xs.any fun d => eqd d (.tup zs))) S
  | x, _ => rInZ neg x y S Q
section
variable {X : Cx} {a b e o : Expr} {ta tb te to : TED} {pos apos cpos : Pos}
/-! ### xs.index(x), x a tuple -/
def rLixP : D → List D → HD → QD → Prop := fun x ds S Q => match ds with
  | [.tup zs] => (match asLst S x with
    | some xs => (okP (.tup zs) = true ∧ xs.all okP = true) ∧ true ∈ xs.map (fun d => eqd d (.tup zs)) ∧ Q (.int ((xs.map fun d => eqd d (.tup zs)).idxOf true : Nat)) S
    | none => False)
  | _ => False
end
end PD
end
section
/-! PD55: dict(zip(a text, a list or a tuple)). -/
namespace PD
open PySem PySem.Spec PyProof.Rows L2
end PD
end
section
/-! PD56: dict(zip(a text, a list or a tuple)), the call. -/
namespace PD
open PySem PySem.Spec PyProof.Rows L2
def keysZ (z : Str) : List Key := z.cps.toList.map fun c => Sum.inr ⟨#[c]⟩
section
variable {X : Cx} {pins : List (Addr × Obj)} {σ : L2.St} {H : Hp} {s : Shared}
theorem kv_zip : ∀ {ks : List Key} {ys : List V} {its : List Value}, Vals ys its → KV (ks.zip ys) (ks.zip its)
  | [], _, _, _ => by rw [List.zip_nil_left, List.zip_nil_left]; exact .nil
  | k :: ks, _, _, .nil => by rw [List.zip_nil_right, List.zip_nil_right]; exact .nil
  | k :: ks, _, _, .cons r rs => .cons ⟨rfl, r⟩ (kv_zip rs)
end
/-- dict(zip(a text, a list or a tuple)), frozen -/
def tDictZ (ta : TAD) : TED := fun σ S Q => ta σ S fun ds S1 => match ds with
  | [.str z, y] => (match asSeq S1 y with
    | some xs => Q (.dic (putAll ((keysZ z).zip xs) [])) S1
    | none => False)
  | _ => False
theorem rdk_zip {K : PySem.W.Frag} {G : Addr → Prop} {S : HD} {H : Hp} : ∀ {ks : List Key} {xs : List D} {ys : List V}, RDs K G S H xs ys → RDk K G S H (rKV (ks.zip xs)) (ks.zip ys)
  | [], _, _, _ => by rw [List.zip_nil_left, List.zip_nil_left]; exact .nil
  | k :: ks, _, _, .nil => by rw [List.zip_nil_right, List.zip_nil_right]; exact .nil
  | k :: ks, _, _, .cons q r => .cons q (rdk_zip r)
end PD
end
section
/-! PD57: a lambda that is given a name just ahead of the call. -/
namespace PD
open PySem PySem.Spec PyProof.Rows L2
end PD
end
section
/-! PD58: repr of long texts of letters. -/
namespace PD
open PySem PySem.Spec PyProof.Rows L2
end PD
end
section
/-! PD59: for k, v in d.items() of frozen dicts: the dict is locked while it is walked. -/
namespace PD
open PySem PySem.Spec PyProof.Rows L2
def Flat : HO → Prop
  | .tup _ => True
  | .lst _ => True
  | .dK _ => True
  | _ => False
/-- one dict that is not tracked stands locked here, open there, or the other way; all else alike -/
structure Lk (G : Addr → Prop) (S : HD) (H H' : Hp) (d : Addr) (kvs : List (Key × V)) : Prop where
  fz : Fz G S d
  a : H d = some (.dK kvs) ∨ ∃ o, H d = some (.frz o (.dK kvs))
  b : H' d = some (.dK kvs) ∨ ∃ o, H' d = some (.frz o (.dK kvs))
  ne : ∀ x, x ≠ d → H' x = H x
section
variable {K : PySem.W.Frag} {G : Addr → Prop} {S : HD} {H H' : Hp} {d : Addr} {kvs : List (Key × V)}
theorem Lk.rd (l : Lk G S H H' d kvs) {x : Addr} {o : HO} (f : Flat o) (r : Rd H x o) : Rd H' x o := by
  by_cases e : x = d
  · subst e
    have eo : o = .dK kvs := by
      rcases r with r | ⟨u, r⟩
      · rcases l.a with z | ⟨o', z⟩
        · rw [z] at r; cases r; rfl
        · rw [z] at r; cases r; exact f.elim
      · rcases l.a with z | ⟨o', z⟩
        · rw [z] at r; cases r
        · rw [z] at r; cases r; rfl
    subst eo
    rcases l.b with z | ⟨o', z⟩
    · exact .inl z
    · exact .inr ⟨_, z⟩
  · rcases r with r | ⟨u, r⟩
    · exact .inl ((l.ne x e).trans r)
    · exact .inr ⟨u, (l.ne x e).trans r⟩
end
end PD
end
section
/-! PD60: for k, v in d.items(), the loop. -/
namespace PD
open PySem PySem.Spec PyProof.Rows L2
def pairsD (kds : List (D × D)) : List D := kds.map fun p => .tup [p.1, p.2]
theorem RDk.get {K : PySem.W.Frag} {G : Addr → Prop} {S : HD} {H : Hp} : ∀ {kds : List (D × D)} {kvs : List (Key × V)} {i : Nat} {p : D × D}, RDk K G S H kds kvs → kds[i]? = some p → ∃ k v, kvs[i]? = some (k, v) ∧ p.1 = kD k ∧ RD K G S H p.2 v
  | _, _, i, _, .nil, e => by simp at e
  | _, _, 0, _, .cons h _, e => by simp at e; subst e; exact ⟨_, _, rfl, rfl, h⟩
  | _, _, i + 1, p, .cons _ r, e => by
    obtain ⟨k, v, h1, h2, h3⟩ := RDk.get (i := i) (p := p) r (by simpa using e)
    exact ⟨k, v, by simpa using h1, h2, h3⟩
theorem RDk.length {K : PySem.W.Frag} {G : Addr → Prop} {S : HD} {H : Hp} : ∀ {kds : List (D × D)} {kvs : List (Key × V)}, RDk K G S H kds kvs → kds.length = kvs.length
  | _, _, .nil => rfl
  | _, _, .cons _ r => by simp [RDk.length r]
end PD
end
section
/-! PD61: [.. for k, v in d.items() if ..]. -/
namespace PD
open PySem PySem.Spec PyProof.Rows L2
section
variable {X : Cx} {pos px apos cpos tpos : Pos} {x : Str} {elts : List Expr} {kk : Nat} {elt : Expr} {ifs : List Expr} {scope : Scope} {own : List (Str × Nat)} {g : TGD} {tt : TTD} {te : TED}
/-- [.. for k, v in d.items() if ..]: d a frozen dict in a slot -/
def tLcItD (i : Nat) (g : TGD) (tt : TTD) (te : TED) (vs : List Nat) : TED := fun σ S Q => ∃ kds, gt σ i = some (.dic kds) ∧ kds.length ≤ sizeLine ∧ lcD g tt te (wipeD σ vs) (fun _ => True) (fun acc S2 => Q (.lst acc) S2) (pairsD kds) [] S
end
end PD
end
section
/-! PD62: for k in d, d a tracked dict with tuple keys: it is locked while it is walked. -/
namespace PD
open PySem PySem.Spec PyProof.Rows L2
end PD
end
section
/-! PD63: for k in d over tuple keys, the loop; d[k] while d is locked. -/
namespace PD
open PySem PySem.Spec PyProof.Rows L2
/-! ### d[k] while d is locked -/
section
variable {X : Cx} {a b : Expr} {ta tb : TED} {pos : Pos} {k : Nat}
def tlOf (S : HD) : D → Option (World × List (D × D))
  | .ref a => (match S.hp a with
    | some (.dcl w o xs kds) => some (w, kds)
    | _ => none)
  | _ => none
def rIxL (w : World) : R2D := fun x y S Q => match tlOf S x with
  | some (w', kds) => (match keyT y with
    | some nk => w' = w ∧ nk.depth ≤ 8 ∧ (match getT kds nk with
      | some v => Q v S
      | none => False)
    | none => False)
  | none => rIxW w x y S Q
end
end PD
end
section
/-! PD64: a text read from behind. -/
namespace PD
open PySem PySem.Spec PyProof.Rows L2
def revS (z : Str) : Str := ⟨z.cps.toList.reverse.toArray⟩
section
variable {X : Cx} {e : Expr} {ta : TED}
/-- z[::-1] -/
def tRevSD (te : TED) : TED := fun σ S Q => te σ S fun d S1 => match d with
  | .str z => z.length ≤ sizeLine ∧ Q (.str (revS z)) S1
  | _ => False
end
end PD
end
section
/-! PD65: d == {}, d != {}. -/
namespace PD
open PySem PySem.Spec PyProof.Rows L2
section
variable {X : Cx} {a b : Expr} {ta tb : TED} {pos : Pos}
def rEqE : R2D := fun x y S Q => y = .dic [] ∧ ((∃ kds, asDic S x = some kds ∧ Q (.bl kds.isEmpty) S) ∨ ∃ w kds, tdOf S x = some (w, kds) ∧ Q (.bl kds.isEmpty) S)
def rNeE : R2D := fun x y S Q => y = .dic [] ∧ ((∃ kds, asDic S x = some kds ∧ Q (.bl (!kds.isEmpty)) S) ∨ ∃ w kds, tdOf S x = some (w, kds) ∧ Q (.bl (!kds.isEmpty)) S)
theorem RDt.len {K : PySem.W.Frag} {G : Addr → Prop} {S : HD} {H : Hp} : ∀ {kds : List (D × D)} {xs : List (NestedKey × Addr × Value)}, RDt K G S H kds xs → kds.length = xs.length
  | _, _, .nil => rfl
  | _, _, .cons _ _ _ _ _ r => by simp [RDt.len r]
end
end PD
end
section
/-! PD66: a or b by truth: None, bools, whole numbers, texts. -/
namespace PD
open PySem PySem.Spec PyProof.Rows L2
section
variable {X : Cx} {a b : Expr} {ta tb : TED} {rest : List Expr} {pos : Pos}
def tOrX (ta tb : TED) : TED := fun σ S Q => ta σ S fun x S1 => match x with
  | .non => tb σ S1 Q
  | .bl k => if k = true then Q (.bl k) S1 else tb σ S1 Q
  | .int i => if (i != 0) = true then Q (.int i) S1 else tb σ S1 Q
  | .str z => z.length ≤ sizeLine ∧ if ((z.length : Int) != 0) = true then Q (.str z) S1 else tb σ S1 Q
  | _ => False
end
end PD
end
section
/-! PD67: for k, v in d.items(), d a tracked dict with tuple keys. -/
namespace PD
open PySem PySem.Spec PyProof.Rows L2
end PD
end
section
/-! PD68: zip of three sequences, with a tuple as target. -/
namespace PD
open PySem PySem.Spec PyProof.Rows L2
end PD
end
section
/-! PD69: min of a list of tuples of texts, min of two such tuples; s.strip(signs). -/
namespace PySem
set_option autoImplicit false
end PySem
namespace PD
open PySem PySem.Spec PyProof.Rows L2 PySem.SeqAt PySem.W
def isS : D → Bool
  | .str _ => true
  | _ => false
def ltD (x y : D) : Bool := dataLt (py x) (py y)
/-! ### s.strip(signs) -/
end PD
end
section
/-! PD70: d.update(e) and dict(d), dicts whose keys are tuples. -/
namespace PySem
set_option autoImplicit false
end PySem
namespace PD
open PySem PySem.Spec PyProof.Rows L2
/-! ### update -/
end PD
end
section
/-! PD71: list(zip(a, b)), frozen. -/
namespace PD
open PySem PySem.Spec PyProof.Rows L2
end PD
end
section
/-! PD72: list(zip(a, b)), frozen: the expression. -/
namespace PD
open PySem PySem.Spec PyProof.Rows L2
end PD
end
section
/-! PD73: methods that are handed lambdas; a method of one of two classes. -/
namespace PD
open PySem PySem.Spec PyProof.Rows L2
/-- o.m(.., lambda ..: .., ..) -/
def tMethCL (C : Addr) (m : Str) (sp : SpD) (to : TED) (ta : TADL) : TED := fun σ S Q => to σ S fun x S1 => methD C m x S1 (ta σ S1 fun ds ls S2 => (∀ p ∈ ls, ∀ q ∈ p.cp, ∃ d, gt σ q.2 = some d) ∧ ((∀ p ∈ ls, S2.hp p.g = none) → (ls.map (·.g)).Nodup → ∀ cl, sp (x :: ds) (tell cl σ ls S2) fun d S' => Q d (S'.keepclo S2)))
/-- one of both readings -/
def tAlt (t1 t2 : TED) : TED := fun σ S Q => t1 σ S Q ∨ t2 σ S Q
end PD
end
section
/-! PD74: C() of a class without __init__. -/
namespace PD
open PySem PySem.Spec PyProof.Rows L2
/-- C() -/
def tMake0 (C : Addr) : TED := fun _ S Q => ∀ p, S.hp p = none → Q (.ref p) (S.set p (.ins C []))
end PD
end
section
/-! PD75: min and max of a list of integers, of tuples of texts, of (integer, tuple of texts). -/
namespace PD
open PySem PySem.Spec PyProof.Rows L2 PySem.SeqAt PySem.W
/-- the shape: 0 an integer, 1 a tuple of texts, 2 an integer and a tuple of texts -/
def shp : D → Option Nat
  | .int _ => some 0
  | .tup xs => if xs.all isS = true then some 1 else match xs with
    | [.int _, .tup ys] => if ys.all isS = true then some 2 else none
    | _ => none
  | _ => none
end PD
end
section
/-! PD76: [.. for k in d if ..] over tuple keys, d a tracked dict in a slot; d[k] within (rIxL). -/
namespace PD
open PySem PySem.Spec PyProof.Rows L2
section
variable {X : Cx} {pos px tpos : Pos} {x : Str} {tg : Expr} {elt : Expr} {ifs : List Expr} {scope : Scope} {own : List (Str × Nat)} {g : TGD} {tt : TTD} {te : TED}
/-- [.. for k in d if ..]: d a tracked dict with tuple keys in a slot -/
def tLcKyD (j : Nat) (g : TGD) (tt : TTD) (te : TED) (vs : List Nat) : TED := fun σ S Q => ∃ a w kds, gt σ j = some (.ref a) ∧ S.hp a = some (.dct w kds) ∧ kds.length ≤ sizeLine ∧ ∀ o xs,
  lcD g tt te (wipeD σ vs) (fun S1 => S1.hp a = some (.dcl w o xs kds)) (fun acc S2 => S2.hp a = some (.dcl w o xs kds) ∧ Q (.lst acc) (S2.set a (.dct w kds))) (kds.map (·.1)) [] (S.set a (.dcl w o xs kds))
end
section
variable {X : Cx} {pos px tpos : Pos} {x : Str} {tg : Expr} {elt : Expr} {ifs : List Expr} {scope : Scope} {own : List (Str × Nat)} {g : TGD} {tt : TTD} {te : TED}
/-- name = [.. for k in d if ..] -/
def sLcKyD (i j : Nat) (g : TGD) (tt : TTD) (te : TED) (vs : List Nat) : TSD := fun D σ S => ∃ a w kds, gt σ j = some (.ref a) ∧ S.hp a = some (.dct w kds) ∧ kds.length ≤ sizeLine ∧ ∀ o xs,
  lcD g tt te (wipeD σ vs) (fun S1 => S1.hp a = some (.dcl w o xs kds)) (fun acc S2 => S2.hp a = some (.dcl w o xs kds) ∧ gNameD i (.lst acc) σ (S2.set a (.dct w kds)) D.nx) (kds.map (·.1)) [] (S.set a (.dcl w o xs kds))
end
end PD
end
section
/-! PD77: a > b of data that are alike (ints; texts or tuples of texts; an int and a tuple of texts). -/
namespace PD
open PySem PySem.Spec PyProof.Rows L2
open PySem.W
def rGtN : R2D := fun x y S Q => okP x = true ∧ okP y = true ∧ (∃ n, shp x = some n ∧ shp y = some n) ∧ Q (.bl (ltD y x)) S
end PD
end
section
/-! PD78: dict([(i, x), ..]), the keys ints, a new dict that is to change. -/
namespace PD
open PySem PySem.Spec PyProof.Rows L2
def rDictP : SpD := fun ds S Q => match ds with
  | [x] => (match asLst S x with
    | some xs => ∃ kys : List (Int × D), xs = kys.map (fun q => D.tup [.int q.1, q.2]) ∧ ∀ q, S.hp q = none → Q (.ref q) (S.set q (.dic (putAll ((kys.map fun q => Sum.inl q.1).zip (kys.map (·.2))) [])))
    | none => False)
  | _ => False
section
variable {X : Cx} {pins : List (Addr × Obj)} {σ : L2.St} {H : Hp} {s : Shared} {G : Addr → Prop} {S : HD}
theorem pairs_at (I : Inv X pins σ H s) : ∀ (kys : List (Int × D)) (ws : List V) (its : List Value), RDs X.K G S H (kys.map fun q => D.tup [.int q.1, q.2]) ws → Vals ws its →
    ∃ (ts : List Addr) (us : List (Value × Value)) (ys : List V), its = ts.map Value.ref ∧ us.length = kys.length ∧ ts.length = kys.length ∧
      (∀ (j : Nat) k v, us[j]? = some (k, v) → ∃ t q, ts[j]? = some t ∧ kys[j]? = some q ∧ PairAt s.heap t k v ∧ (mixKind X.prog X.w).is (Sum.inl q.1) k = true) ∧ Vals ys (us.map (·.2)) ∧ RDs X.K G S H (kys.map (·.2)) ys
  | [], _, _, .nil, .nil => ⟨[], [], [], rfl, rfl, rfl, fun j k v h => by simp at h, .nil, .nil⟩
  | q :: kys, _, _, .cons q1 r, .cons rv rvs => by
    obtain ⟨ts, us, ys, h1, h2, h3, h4, h5, h6⟩ := pairs_at I kys _ _ r rvs
    cases q1 with
    | @tup a vs ds h r2 =>
      obtain ⟨its2, rv2, p2, hz⟩ := I.tuple h.sq
      cases r2 with
      | cons x1 x2 =>
        cases x2 with
        | cons x3 x4 =>
          cases x4
          cases rv2 with
          | cons y1 y2 =>
            cases y2 with
            | cons y3 y4 =>
              cases y4
              cases x1
              obtain ⟨tk, rfl⟩ : ∃ tk, _ = Value.int q.1 tk := y1
              rename_i b
              obtain rfl : _ = Value.ref a := rv
              exact ⟨a :: ts, (.int q.1 tk, b) :: us, _ :: ys, by rw [h1]; rfl, by simp [h2], by simp [h3], fun j k v hj => by
                cases j with
                | zero =>
                  cases hj
                  exact ⟨a, q, rfl, rfl, .inl p2, by show keyIs (Sum.inl q.1) (.int q.1 tk) = true; simp [keyIs, Value.isInt]⟩
                | succ j =>
                  obtain ⟨t, q', e1, e2, e3⟩ := h4 j k v hj
                  exact ⟨t, q', e1, e2, e3⟩, .cons y3 h5, .cons x3 h6⟩
theorem call_dictP (hc : X.calm = true := by rfl) : CallRD X (.type "dict") rDictP := by
  intro pins s σ H vs us ds G S Qd Q I rv rd rh t p
  unfold rDictP at t
  split at t
  · rename_i x
    split at t
    · rename_i xs ex
      obtain ⟨kys, rfl, t⟩ := t
      cases rd with
      | cons q1 r1 =>
        cases r1
        obtain ⟨a, ws, rfl, l, r⟩ := asLst_ok rh ex q1
        obtain ⟨u, rfl, ru⟩ := rv.one
        obtain rfl : u = Value.ref a := ru
        obtain ⟨its, rvs, pl, hz⟩ := I.list l
        obtain ⟨ts, us, ys, h1, h2, h3, h4, h5, h6⟩ := pairs_at I kys ws its r rvs
        have hq := I.hok.fresh (Nat.le_refl s.heap.objs.size)
        have hd0 : (s.heap.objs.size == sysModules) = false := beq_eq_false_iff_ne.mpr (Ne.symm (Nat.ne_of_lt I.big))
        have P := PairArg.list (prog := X.prog) (w := X.w) a its.toArray (fun j => ts.getD j 0) us
        have hPI : PairItems s.heap its.toArray (fun j => ts.getD j 0) us := ⟨by rw [h1]; simp [h2, h3], fun j k v hj => by
          obtain ⟨t, q, e1, _, e3, _⟩ := h4 j k v hj
          have e4 : ts.getD j 0 = t := by simp [List.getD, e1]
          show its.toArray[j]? = some (Value.ref (ts.getD j 0)) ∧ PairAt s.heap (ts.getD j 0) k v
          rw [e4]
          refine ⟨?_, e3⟩
          rw [h1]
          simp [e1]⟩
        have hl : its.length = kys.length := by rw [h1, List.length_map, h3]
        have hvl := rvs.length
        refine call_dict_pairs (knd := mixKind X.prog X.w) (kvs := (kys.map fun q => (Sum.inl q.1 : Key)).zip (us.map (·.2))) P (I.ok.hd hc) ⟨pl, hPI⟩ ⟨?_, ?_⟩ (by omega) fun h' tk hd hk => ?_
        · rw [List.length_zip]
          simp [h2]
        · intro i k v hj
          obtain ⟨t, q, e1, e2, e3, e4⟩ := h4 i k v hj
          refine ⟨Sum.inl q.1, ?_, e4⟩
          rw [List.getElem?_zip_eq_some, List.getElem?_map, List.getElem?_map, e2, hj]
          exact ⟨rfl, rfl⟩
        · have hlen : (mergeK [] ((kys.map fun q => (Sum.inl q.1 : Key)).zip ys)).length ≤ sizeLine := by
            have g1 := length_mergeK ((kys.map fun q => (Sum.inl q.1 : Key)).zip ys) []
            rw [List.length_nil, List.length_zip, List.length_map] at g1
            omega
          have m : Mv G S H G (S.set s.heap.objs.size (.dic (putAll ((kys.map fun q => (Sum.inl q.1 : Key)).zip (kys.map (·.2))) []))) (upd H s.heap.objs.size (.dK (mergeK [] ((kys.map fun q => (Sum.inl q.1 : Key)).zip ys)))) := ⟨fun b o e z => by
            have nb := ne_of_none e hq
            exact ⟨⟨by rw [HD.set_ne nb]; exact z.1, z.2.1, z.2.2⟩, by rw [upd_ne nb]; exact e⟩, fun _ e => e⟩
          have rr := putAll_rel ((kys.map fun q => (Sum.inl q.1 : Key)).zip (kys.map (·.2))) (rdk_zip h6) (.nil (K := X.K) (G := G) (S := S) (H := H))
          obtain ⟨rh1, f1⟩ := rh.newR hq (o := .dic (putAll ((kys.map fun q => (Sum.inl q.1 : Key)).zip (kys.map (·.2))) [])) (ho := .dK (mergeK [] ((kys.map fun q => (Sum.inl q.1 : Key)).zip ys))) ⟨_, upd_same, rr.mv m⟩
          exact ⟨.ref s.heap.objs.size, _, I.laid (t' := tk) (fun b o e => hk b o (fun z => nomatch z) e) (Nat.le_refl _) (dk_new hlen hd0 (KV.merge (kv_zip h5) .nil) hd), rfl, p _ _ _ _ f1 rh1 (.ref s.heap.objs.size) (t _ (rh.fresh hq).1)⟩
    · exact t.elim
  · exact t.elim
end
end PD
end
section
/-! PD79: list(range(a, b)), a list that is to change; xs.pop(i). -/
namespace PD
open PySem PySem.Spec PyProof.Rows L2
def rngV (i : Int) (n : Nat) : List V := (List.range n).map fun k => V.int (i + (k : Nat))
/-- list(range(a, b)) -/
def tLr (ta : TA) : TE := fun σ H Q => ta σ H fun vs H1 => ∃ i j : Int, vs = [.int i, .int j] ∧ (-(2 ^ 62) ≤ i ∧ i < 2 ^ 62 ∧ -(2 ^ 62) ≤ j ∧ j < 2 ^ 62) ∧ (j - i).toNat ≤ 1000000 ∧ ∀ p, H1 p = none → Q (.ref p) (upd H1 p (.lst (rngV i (j - i).toNat)))
section
variable {X : Cx} {a b o e : Expr} {ta : TA} {p1 p2 pos1 pos2 apos cpos : Pos}
theorem pe_lr (hc : X.calm = true) (hgd : Gl X "list") (hmd : X.mg "list" = none) (hgz : Gl X "range") (hmz : X.mg "range" = none) (ha : PA X [a, b] ta)
    (hs : starEach [a, b] X.env = [(false, eval a X.env), (false, eval b X.env)] := by rfl) (hs2 : starEach [b] X.env = [(false, eval b X.env)] := by rfl)
    (hs1 : starEach [.Call (.Name "range" p2) [a, b] [] pos2] X.env = [(false, eval (.Call (.Name "range" p2) [a, b] [] pos2) X.env)] := by rfl) :
    PE X (.Call (.Name "list" p1) [.Call (.Name "range" p2) [a, b] [] pos2] [] pos1) (tLr ta) := by
  refine ⟨fun pins s σ H Q I h => Call_ (ld_blt I hgd hmd PyProof.Rows.boot_list (PyProof.Rows.callWith_type1 ?_ hs1 rfl))⟩
  rw [hs1]
  refine Calls.spliced_cons (thn (Q := fun u s2 => wpAny (model X.prog X.w) X.A (call (.type "list") [u]) (EP X pins σ Q) X.xe s2) ?_ fun u s2 hu => Calls.spliced_nil hu)
  rw [if_neg (by decide)]
  refine Call_ (ld_blt I hgz hmz PyProof.Rows.boot_range (PyProof.Rows.callWith_type1 (thn (ha.run pos2 pins s σ H _ I h) fun us s1 ⟨vs, H1, I1, r1, i, j, ev, ⟨b1, b2, b3, b4⟩, hn, q⟩ => ?_) (by rw [hs, hs2]) (by rw [hs2]; rfl)))
  subst ev
  cases r1 with
  | cons r rr =>
    cases rr with
    | cons r' rr =>
      cases rr
      obtain ⟨t, rfl⟩ := r
      obtain ⟨t', rfl⟩ := r'
      refine call_range_2 ?_
      have I2 : Inv X pins σ H1 { s1 with heap := s1.heap.push { cls := .type "range", data := .fields #[.int i t, .int j t', .int 1 s1.toks] }, toks := s1.toks + 1 } := I1.kept fun b o e => Heap.get?_push_of_some _ e
      have hsz : Builtin.Range.rangeSize i j 1 = ((j - i).toNat : Nat) := by rw [rangeSize_one]; split <;> omega
      refine call_list_range (n := (j - i).toNat) (I2.ok.hd hc) (IsRange.new ..) (small_one b1 b2 b3 b4) hsz (by omega) fun h' tk acc' c' kp e1 hi => ?_
      have hv : Vals (rngV i (j - i).toNat) acc'.toList := by
        have hl : acc'.toList.length = (j - i).toNat := by rw [Array.length_toList]; exact hi.1
        unfold rngV
        rw [← hl]
        refine vals_of_get _ _ fun k u hu => ?_
        obtain ⟨t, e⟩ := hi.2 k u (by simpa using hu)
        refine ⟨t, ?_⟩
        rw [e, Int.mul_one]
      refine ⟨.ref _, _, I2.laid (t' := tk) kp (Nat.le_refl _) (show ObjOk X.prog X.w _ h' _ (.lst (rngV i (j - i).toNat)) from ⟨by unfold rngV; rw [List.length_map, List.length_range, sizeLine_eq]; omega, acc'.toList, c', hv, by simpa using e1⟩), rfl, q _ (I2.hok.fresh (Nat.le_refl _))⟩
end
/-- list(range(a, b)), to change -/
def tListRng (ta : TAD) : TED := fun σ S Q => ta σ S fun ds S1 => match ds with
  | [.int i, .int j] => (-1000000 ≤ i ∧ i ≤ 1000000 ∧ -1000000 ≤ j ∧ j ≤ 1000000 ∧ (j - i).toNat ≤ 1000000) ∧ ∀ p, S1.hp p = none → Q (.ref p) (S1.set p (.lst (rngD i (j - i).toNat)))
  | _ => False
def rPopI : D → List D → HD → QD → Prop := fun x ds S Q => match x, ds with
  | .ref a, [.int i] => (match S.hp a with
    | some (.lst xs) => ∃ k y, i = ((k : Nat) : Int) ∧ k < 1000000 ∧ xs[k]? = some y ∧ Q y (S.set a (.lst (xs.eraseIdx k)))
    | _ => False)
  | _, _ => False
section
variable {X : Cx} {a b o e : Expr} {ta : TAD} {to : TED} {p1 p2 pos1 pos2 apos cpos : Pos}
theorem de_listRng (hc : X.calm = true) (hmd : X.mg "list" = none) (hmz : X.mg "range" = none) (ha : DA X [a, b] ta) (hgd : Gl X "list" := by rfl) (hgz : Gl X "range" := by rfl)
    (hs : starEach [a, b] X.env = [(false, eval a X.env), (false, eval b X.env)] := by rfl) (hs2 : starEach [b] X.env = [(false, eval b X.env)] := by rfl)
    (hs1 : starEach [.Call (.Name "range" p2) [a, b] [] pos2] X.env = [(false, eval (.Call (.Name "range" p2) [a, b] [] pos2) X.env)] := by rfl) :
    DE X (.Call (.Name "list" p1) [.Call (.Name "range" p2) [a, b] [] pos2] [] pos1) (tListRng ta) :=
  (pe_lr hc hgd hmd hgz hmz ha hs hs2 hs1).imp fun σ H Q ⟨G, σd, S, Qd, rs, rh, t, p⟩ => ⟨G, σd, S, _, rs, rh, t, fun S1 ds vs H1 f1 rh1 q1 t1 => by
    split at t1
    · rename_i i j
      obtain ⟨⟨b1, b2, b3, b4, b5⟩, t1⟩ := t1
      cases q1 with
      | cons q r =>
        cases r with
        | cons q' r' =>
          cases r'; cases q; cases q'
          refine ⟨i, j, rfl, ⟨by omega, by omega, by omega, by omega⟩, b5, fun pp hp => ?_⟩
          have key : ∀ (S2 : HD) (H2 : Hp) (l : List Nat), RDs X.K G S2 H2 (l.map fun k => D.int (i + (k : Nat))) (l.map fun k => V.int (i + (k : Nat))) := fun S2 H2 l => by
            induction l with
            | nil => exact .nil
            | cons k l ih => exact .cons (.int _) ih
          have rr : RDs X.K G (S1.set pp (.lst (rngD i (j - i).toNat))) (upd H1 pp (.lst (rngV i (j - i).toNat))) (rngD i (j - i).toNat) (rngV i (j - i).toNat) := key _ _ _
          obtain ⟨r', f'⟩ := rh1.newR (o := .lst (rngD i (j - i).toNat)) (ho := .lst (rngV i (j - i).toNat)) hp ⟨_, upd_same, rr⟩
          exact p _ _ _ _ (f1.trans f') r' (.ref pp) (t1 pp (rh1.fresh hp).1)
    · exact t1.elim⟩
theorem RDs.eraseIdx {K : PySem.W.Frag} {G : Addr → Prop} {S : HD} {H : Hp} {ds : List D} {vs : List V} (r : RDs K G S H ds vs) (k : Nat) : RDs K G S H (ds.eraseIdx k) (vs.eraseIdx k) := by
  rw [List.eraseIdx_eq_take_drop_succ, List.eraseIdx_eq_take_drop_succ]
  exact (r.take k).append (r.drop (k + 1))
theorem de_popI (ho : DE X o to) (ha : DA X [e] ta) (hbase : attributeBase o "pop" X.env (eval o X.env) = eval o X.env := by rfl)
    (hfew : ((backTo cpos (starEach (e :: []) X.env)).all (fun x => !x.1) && (backToKw cpos (keywordEach [] X.env)).all (fun x => x.1.isSome)
      && decide ((e :: ([] : List Expr)).length + ([] : List Keyword).length + (if ([] : List Keyword).isEmpty then 0 else 1) < 30)) = true := by rfl)
    (hline : (apos.endLine == cpos.line) = true := by rfl) (hs : starEach (e :: []) X.env = (false, eval e X.env) :: starEach [] X.env := by rfl) : DE X (.Call (.Attribute o "pop" apos) [e] [] cpos) (tMethA rPopI to ta) :=
  de_methA PySem.F.slot_list_pop PySem.F.type_list_pop mt_popAt (fun G S H d v ds vs Qd Q rh q1 q2 t p => by
    unfold rPopI at t
    split at t
    · rename_i a i
      split at t
      · rename_i xs e
        obtain ⟨k, y, rfl, hk, hy, t⟩ := t
        obtain ⟨_, _, ws, e1, r⟩ := rh.hp a _ e
        cases q1
        cases q2 with
        | cons q3 q4 =>
          cases q4; cases q3
          obtain ⟨u, h1, h2⟩ := r.get hy
          have hkl := (List.getElem?_eq_some_iff.mp h1).1
          obtain ⟨rh', f'⟩ := rh.writeL e (r.eraseIdx k)
          refine ⟨a, ws, (k : Nat), k, u, rfl, rfl, e1, by omega, by omega, ?_, h1, p _ _ _ _ f' rh' (h2.fl f') t⟩
          unfold seqIndex?
          rw [if_neg (show ¬ ((k : Nat) : Int) < 0 by omega)]
          rw [if_pos (by simp only [Bool.and_eq_true, decide_eq_true_eq]; omega)]
          rfl
      · exact t.elim
    · exact t.elim) ho ha hbase hfew hline hs rfl
end
end PD
end
section
namespace K13
open PySem PySem.Spec PyProof.Rows L2 PD
def top (i : Nat) : Stmt := PySem.Challenge.pw_sortedshelves_k13_smallest_machines.main.body.getD i (.Pass ⟨0, 0, 0, 0⟩)
structure Txt (K : PySem.W.Frag) (mg : Str → Option Value) : Prop where
  b_len : mg "len" = none
  b_enumerate : mg "enumerate" = none
  b_list : mg "list" = none
  b_int : mg "int" = none
  b_set : mg "set" = none
  b_tuple : mg "tuple" = none
  b_bool : mg "bool" = none
  b_abs : mg "abs" = none
  b_range : mg "range" = none
  b_dict : mg "dict" = none
  b_zip : mg "zip" = none
  b_repr : mg "repr" = none
  c_MAX_ROWS : ∃ t, mg "MAX_ROWS" = some (.int (400) t)
section
variable {P : Program} {w : World} {K : PySem.W.Frag} {mg : Str → Option Value} {base : Heap}
abbrev s_met_from : Stmt := top 5
abbrev N_met_from : List Str := ["rows", "found", "known", "at", "item"]
theorem sc_met_from : FnScope N_met_from ["rows"] (defScope s_met_from) := ⟨rfl, rfl, rfl, by decide +kernel, rfl, by decide +kernel, by decide +kernel⟩
def rd_met_from : TSD :=
  sSeqD (sPar3 1 2 3 (tConsD (tLstR (tConsD (tCD (.int 0)) (tNilD))) (tConsD (tDispR [(tCD (.int 0), tCD (.bl true))]) (tConsD (tCD (.int 0)) (tNilD)))))
  (sSeqD (sWhileD (tTst (tBin (rCmpI fLt) (tSlot 3) (tCallD rLenD (tConsD (tSlot 1) (tNilD))))) (sSeqD (sForD (iAnyD (tBin rIxX (tSlot 0) (tBin rIxX (tSlot 1) (tSlot 3)))) (gNameD 4) (sIfD (tAndD (tTst (tUnD rNotN (tSlot 4))) (tTst (tBin (rInY true) (tSlot 4) (tSlot 2)))) (sSeqD (sAsgD (tCD (.bl true)) (gSubX (tSlot 2) (tSlot 4)))
  (sDropD (tMethL rAppD (tSlot 1) (tConsD (tSlot 4) (tNilD))))) (sNextD)))
  (sAsgD (tBin rAddD (tSlot 3) (tCD (.int 1))) (gNameD 3))))
  (sRetD (tSlot 1)))
theorem dv_met_from (T : Txt K mg) (hB : SysB base) {k : Nat} {f : Addr} {cdv : Value} {A : Around} {outer : List Env} {s : Shared} {H : Hp} (hr : RoomG k (A.deeper (envOfC "met_from" (defScope s_met_from) s.heap.objs.size f cdv))) :
    DSs (cxOf CX0 P w K mg base N_met_from "met_from" (defScope s_met_from) f cdv A outer s H E0).nox (defBody s_met_from) (rd_met_from) :=
  dss_cons (ds_par3 1 2 3 sc_met_from.nd (da_cons (de_lstR (da_cons (de_int) (da_nil))) (da_cons (de_dispR (dps_cons (de_int) (de_bl) (dps_nil))) (da_cons (de_int) (da_nil)))))
    (dss_cons (ds_while PassesOwn.never (dt_lt (de_slot 3 (pv 3)) (de_callB call_lenRD T.b_len bt_len (da_cons (de_slot 1 (pv 1)) (da_nil)))) (dss_cons (ds_for PassesOwn.never (di_any (de_ixX hr (de_slot 0 (pv 0)) (de_ixX hr (de_slot 1 (pv 1)) (de_slot 3 (pv 3))))) (dg_name 4 (pg_name (i := 4) sc_met_from.nd rfl (Or.inl rfl))) (dss_one (ds_if (dt_w (dw_and (dt_notN (de_slot 4 (pv 4))) (dw_and1 (dt_notInY hr (de_slot 4 (pv 4)) (de_slot 2 (pv 2)))))) (dss_cons (ds_asg (de_bl) (dg_subX hr (de_slot 2 (pv 2)) (de_slot 4 (pv 4))))
    (dss_one (ds_expr (de_append (de_slot 1 (pv 1)) (da_cons (de_slot 4 (pv 4)) (da_nil)))))) (dss_nil))))
    (dss_one (ds_set 3 sc_met_from.nd (de_add (de_slot 3 (pv 3)) (de_int))))))
    (dss_one (ds_ret (de_slot 1 (pv 1)))))
theorem mk_met_from (D : DefOf K mg "met_from" s_met_from) (T : Txt K mg) (hB : SysB base) {k : Nat} {sp : SpD} (len : ∀ ds S Q, sp ds S Q → ds.length = 1) (hq : ∀ ds S Qd, sp ds S Qd → rd_met_from { nx := fun _ S2 => fin Qd .non S2, rt := fin Qd, bk := fun _ _ => False, ct := fun _ _ => False } (pad 5 ds) S) : Has P w K mg base (k + 1) "met_from" ["rows"] sp :=
  let ⟨f, fd, F, hm⟩ := D.ex
  .of F hm (F.binds fun _ _ _ _ _ _ us hl => match us, hl with | [_], _ => rfl) (FnD.of F sc_met_from _ len (fun cdv A outer s H hr => dv_met_from T hB hr) hq)
abbrev s_living : Stmt := top 6
abbrev N_living : List Str := ["rows", "ends", "before", "state", "row", "item", "found", "end", "waiting"]
theorem sc_living : FnScope N_living ["rows", "ends"] (defScope s_living) := ⟨rfl, rfl, rfl, by decide +kernel, rfl, by decide +kernel, by decide +kernel⟩
def rd_living : TSD :=
  sSeqD (sAsgD (tLcV (iAnyD (tSlot 0)) (gNameD 4) (tYesD) (tLstR (tNilD)) [4]) (gNameD 2))
  (sSeqD (sForD (iEnumD (tConsD (tSlot 0) (tNilD))) (gTupD 2 (gConsD (gNameD 3) (gConsD (gNameD 4) (gNilD)))) (sForD (iAnyD (tSlot 4)) (gNameD 5) (sIfD (tTst (tUnD rNotN (tSlot 5))) (sDropD (tMethL rAppD (tBin rIxX (tSlot 2) (tSlot 5)) (tConsD (tSlot 3) (tNilD)))) (sNextD))))
  (sSeqD (sAsgD (tDicR) (gNameD 6))
  (sSeqD (sForD (iEnumD (tConsD (tSlot 1) (tNilD))) (gTupD 2 (gConsD (gNameD 3) (gConsD (gNameD 7) (gNilD)))) (sIfD (tTst (tSlot 7)) (sAsgD (tCD (.bl true)) (gSubX (tSlot 6) (tSlot 3))) (sNextD)))
  (sSeqD (sAsgD (tCallD (rListW true) (tConsD (tSlot 6) (tNilD))) (gNameD 8))
  (sSeqD (sWhileD (tTst (tBin rNeD (tSlot 8) (tLstV (tNilD)))) (sForD (iAnyD (tBin rIxX (tSlot 2) (tMethA rPopD (tSlot 8) tNilD))) (gNameD 3) (sIfD (tTst (tBin (rInY true) (tSlot 3) (tSlot 6))) (sSeqD (sAsgD (tCD (.bl true)) (gSubX (tSlot 6) (tSlot 3)))
  (sDropD (tMethL rAppD (tSlot 8) (tConsD (tSlot 3) (tNilD))))) (sNextD))))
  (sRetD (tSlot 6)))))))
theorem dv_living (T : Txt K mg) (hB : SysB base) {k : Nat} {f : Addr} {cdv : Value} {A : Around} {outer : List Env} {s : Shared} {H : Hp} (hr : RoomG k (A.deeper (envOfC "living" (defScope s_living) s.heap.objs.size f cdv))) :
    DSs (cxOf CX0 P w K mg base N_living "living" (defScope s_living) f cdv A outer s H E0).nox (defBody s_living) (rd_living) :=
  dss_cons (ds_setLcV 2 (own := [("row", 4)]) sc_living.nd (di_any (de_slot 0 (pv 0))) (blkOk_by (own := [("row", 4)]) (N := N_living) (sc := defScope s_living) (by decide +kernel)) (fun _ _ _ _ _ => dgw_name 4 (by decide) (pg_name (i := 4) sc_living.nd rfl (Or.inl rfl))) (fun _ _ _ _ _ => dts_nil) (fun _ _ _ _ _ => de_lstR (da_nil)))
    (dss_cons (ds_for PassesOwn.never (di_enum T.b_enumerate (da_cons (de_slot 0 (pv 0)) (da_nil))) (dg_tup rfl (dgs_cons (dg_name 3 (pg_name (i := 3) sc_living.nd rfl (Or.inl rfl))) (dgs_cons (dg_name 4 (pg_name (i := 4) sc_living.nd rfl (Or.inl rfl))) (dgs_nil)))) (dss_one (ds_for PassesOwn.never (di_any (de_slot 4 (pv 4))) (dg_name 5 (pg_name (i := 5) sc_living.nd rfl (Or.inl rfl))) (dss_one (ds_if (dt_notN (de_slot 5 (pv 5))) (dss_one (ds_expr (de_append (de_ixX hr (de_slot 2 (pv 2)) (de_slot 5 (pv 5))) (da_cons (de_slot 3 (pv 3)) (da_nil))))) (dss_nil))))))
    (dss_cons (ds_set 6 sc_living.nd (de_dicR))
    (dss_cons (ds_for PassesOwn.never (di_enum T.b_enumerate (da_cons (de_slot 1 (pv 1)) (da_nil))) (dg_tup rfl (dgs_cons (dg_name 3 (pg_name (i := 3) sc_living.nd rfl (Or.inl rfl))) (dgs_cons (dg_name 7 (pg_name (i := 7) sc_living.nd rfl (Or.inl rfl))) (dgs_nil)))) (dss_one (ds_if (dt_val (de_slot 7 (pv 7))) (dss_one (ds_asg (de_bl) (dg_subX hr (de_slot 6 (pv 6)) (de_slot 3 (pv 3))))) (dss_nil))))
    (dss_cons (ds_set 8 sc_living.nd (de_callTy (call_listW rfl true) T.b_list bt_list (da_cons (de_slot 6 (pv 6)) (da_nil))))
    (dss_cons (ds_while PassesOwn.never (dt_ne hr hB (de_slot 8 (pv 8)) (de_lstV (da_nil))) (dss_one (ds_for PassesOwn.never (di_any (de_ixX hr (de_slot 2 (pv 2)) (de_pop (de_slot 8 (pv 8))))) (dg_name 3 (pg_name (i := 3) sc_living.nd rfl (Or.inl rfl))) (dss_one (ds_if (dt_notInY hr (de_slot 3 (pv 3)) (de_slot 6 (pv 6))) (dss_cons (ds_asg (de_bl) (dg_subX hr (de_slot 6 (pv 6)) (de_slot 3 (pv 3))))
    (dss_one (ds_expr (de_append (de_slot 8 (pv 8)) (da_cons (de_slot 3 (pv 3)) (da_nil)))))) (dss_nil))))))
    (dss_one (ds_ret (de_slot 6 (pv 6)))))))))
theorem mk_living (D : DefOf K mg "living" s_living) (T : Txt K mg) (hB : SysB base) {k : Nat} {sp : SpD} (len : ∀ ds S Q, sp ds S Q → ds.length = 2) (hq : ∀ ds S Qd, sp ds S Qd → rd_living { nx := fun _ S2 => fin Qd .non S2, rt := fin Qd, bk := fun _ _ => False, ct := fun _ _ => False } (pad 9 ds) S) : Has P w K mg base (k + 1) "living" ["rows", "ends"] sp :=
  let ⟨f, fd, F, hm⟩ := D.ex
  .of F hm (F.binds fun _ _ _ _ _ _ us hl => match us, hl with | [_, _], _ => rfl) (FnD.of F sc_living _ len (fun cdv A outer s H hr => dv_living T hB hr) hq)
abbrev s_parted : Stmt := top 7
abbrev N_parted : List Str := ["rows", "ends", "states", "sorts", "many", "more", "places", "later", "state", "mark", "item"]
theorem sc_parted : FnScope N_parted ["rows", "ends", "states"] (defScope s_parted) := ⟨rfl, rfl, rfl, by decide +kernel, rfl, by decide +kernel, by decide +kernel⟩
def rd_parted (w : World) : TSD :=
  sSeqD (sAsgD (tDcV (iAnyD (tSlot 2)) (gNameD 8) (tYesD) (tSlot 8) (tCallD rIntD (tConsD (tBin (rIxW w) (tSlot 1) (tSlot 8)) (tNilD))) [8]) (gNameD 3))
  (sSeqD (sPar2 4 5 (tConsD (tCD (.int 0)) (tConsD (tLenSetD (tLcV (iAnyD (tSlot 2)) (gNameD 8) (tYesD) (tBin (rIxW w) (tSlot 3) (tSlot 8)) [8])) (tNilD))))
  (sSeqD (sWhileD (tTst (tBin (rCmpI fGt) (tSlot 5) (tSlot 4))) (sSeqD (sPar3 4 6 7 (tConsD (tSlot 5) (tConsD (tDicW w) (tConsD (tDicW w) (tNilD)))))
  (sSeqD (sForD (iAnyD (tSlot 2)) (gNameD 8) (sSeqD (sAsgD (tBin rAddD (tTupD (tConsD (tBin (rIxW w) (tSlot 3) (tSlot 8)) (tNilD))) (tCallD rTupleD (tConsD (tLcV (iAnyD (tBin (rIxW w) (tSlot 0) (tSlot 8))) (gNameD 10) (tYesD) (tMethW w (rGetW w) (tSlot 3) (tConsD (tSlot 10) (tNilD))) [10]) (tNilD)))) (gNameD 9))
  (sAsgD (tMethW w (rSetdW w) (tSlot 6) (tConsD (tSlot 9) (tConsD (tCallD (rLenW w) (tConsD (tSlot 6) (tNilD))) (tNilD)))) (gSubW w (tSlot 7) (tSlot 8)))))
  (sSeqD (sCvD (sAsgD (tTupD (tConsD (tSlot 7) (tConsD (tCallD (rLenW w) (tConsD (tSlot 6) (tNilD))) (tNilD)))) (gTupD 2 (gConsD (gNameD 3) (gConsD (gNameD 5) (gNilD))))))
  (sIfD (tTst (tBin (rCmpI fGt) (tSlot 5) (tCD (.int 400)))) (sNeverD) (sNextD))))))
  (sRetD (tSlot 3))))
theorem dv_parted (T : Txt K mg) (hB : SysB base) {k : Nat} {f : Addr} {cdv : Value} {A : Around} {outer : List Env} {s : Shared} {H : Hp} (hr : RoomG k (A.deeper (envOfC "parted" (defScope s_parted) s.heap.objs.size f cdv))) :
    DSs (cxOf CX0 P w K mg base N_parted "parted" (defScope s_parted) f cdv A outer s H E0).nox (defBody s_parted) (rd_parted w) :=
  dss_cons (ds_set 3 sc_parted.nd (de_dcV (own := [("state", 8)]) sc_parted.nd (di_any (de_slot 2 (pv 2))) (blkOk_by (own := [("state", 8)]) (N := N_parted) (sc := defScope s_parted) (by decide +kernel)) (fun _ _ _ _ _ => dgw_name 8 (by decide) (pg_name (i := 8) sc_parted.nd rfl (Or.inl rfl))) (fun _ _ _ _ _ => dts_nil) (fun _ _ _ _ _ => de_slot 8 (pv 8)) (fun _ _ _ _ _ => de_callTy call_intRD T.b_int bt_int (da_cons (de_ixW hr (de_slot 1 (pv 1)) (de_slot 8 (pv 8))) (da_nil)))))
    (dss_cons (ds_par 4 5 sc_parted.nd (da_cons (de_int) (da_cons (de_lenSet T.b_len T.b_set (de_lcV (own := [("state", 8)]) sc_parted.nd (di_any (de_slot 2 (pv 2))) (blkOk_by (own := [("state", 8)]) (N := N_parted) (sc := defScope s_parted) (by decide +kernel)) (fun _ _ _ _ _ => dgw_name 8 (by decide) (pg_name (i := 8) sc_parted.nd rfl (Or.inl rfl))) (fun _ _ _ _ _ => dts_nil) (fun _ _ _ _ _ => de_ixW hr (de_slot 3 (pv 3)) (de_slot 8 (pv 8))))) (da_nil))))
    (dss_cons (ds_while PassesOwn.never (dt_gt (de_slot 5 (pv 5)) (de_slot 4 (pv 4))) (dss_cons (ds_par3 4 6 7 sc_parted.nd (da_cons (de_slot 5 (pv 5)) (da_cons (de_dicW) (da_cons (de_dicW) (da_nil)))))
    (dss_cons (ds_for PassesOwn.never (di_any (de_slot 2 (pv 2))) (dg_name 8 (pg_name (i := 8) sc_parted.nd rfl (Or.inl rfl))) (dss_cons (ds_set 9 sc_parted.nd (de_add (de_tup (da_cons (de_ixW hr (de_slot 3 (pv 3)) (de_slot 8 (pv 8))) (da_nil))) (de_callTy call_tupleRD T.b_tuple bt_tuple (da_cons (de_lcV (own := [("item", 10)]) sc_parted.nd (di_any (de_ixW hr (de_slot 0 (pv 0)) (de_slot 8 (pv 8)))) (blkOk_by (own := [("item", 10)]) (N := N_parted) (sc := defScope s_parted) (by decide +kernel)) (fun _ _ _ _ _ => dgw_name 10 (by decide) (pg_name (i := 10) sc_parted.nd rfl (Or.inl rfl))) (fun _ _ _ _ _ => dts_nil) (fun _ _ _ _ _ => de_getW hr (de_slot 3 (pv 3)) (da_cons (de_slot 10 (pv 10)) (da_nil)))) (da_nil)))))
    (dss_one (ds_asg (de_setdW hr (de_slot 6 (pv 6)) (da_cons (de_slot 9 (pv 9)) (da_cons (de_callB call_lenW T.b_len bt_len (da_cons (de_slot 6 (pv 6)) (da_nil))) (da_nil)))) (dg_subW hr (de_slot 7 (pv 7)) (de_slot 8 (pv 8)))))))
    (dss_cons (ds_cv (ds_asg (de_tup (da_cons (de_slot 7 (pv 7)) (da_cons (de_callB call_lenW T.b_len bt_len (da_cons (de_slot 6 (pv 6)) (da_nil))) (da_nil)))) (dg_tup rfl (dgs_cons (dg_name 3 (pg_name (i := 3) sc_parted.nd rfl (Or.inr rfl))) (dgs_cons (dg_name 5 (pg_name (i := 5) sc_parted.nd rfl (Or.inl rfl))) (dgs_nil))))))
    (dss_one (ds_if (dt_gt (de_slot 5 (pv 5)) (de_gI T.c_MAX_ROWS)) (dss_one (ds_never)) (dss_nil)))))))
    (dss_one (ds_ret (de_slot 3 (pv 3))))))
theorem mk_parted (D : DefOf K mg "parted" s_parted) (T : Txt K mg) (hB : SysB base) {k : Nat} {sp : SpD} (len : ∀ ds S Q, sp ds S Q → ds.length = 3) (hq : ∀ ds S Qd, sp ds S Qd → rd_parted w { nx := fun _ S2 => fin Qd .non S2, rt := fin Qd, bk := fun _ _ => False, ct := fun _ _ => False } (pad 11 ds) S) : Has P w K mg base (k + 1) "parted" ["rows", "ends", "states"] sp :=
  let ⟨f, fd, F, hm⟩ := D.ex
  .of F hm (F.binds fun _ _ _ _ _ _ us hl => match us, hl with | [_, _, _], _ => rfl) (FnD.of F sc_parted _ len (fun cdv A outer s H hr => dv_parted T hB hr) hq)
abbrev s_shrunk : Stmt := top 8
abbrev N_shrunk : List Str := ["letters", "rows", "ends", "alive", "sorts", "heads", "places", "found", "row", "item", "state"]
theorem sc_shrunk : FnScope N_shrunk ["letters", "rows", "ends"] (defScope s_shrunk) := ⟨rfl, rfl, rfl, by decide +kernel, rfl, by decide +kernel, by decide +kernel⟩
def rd_shrunk (sp_living : SpD) (sp_parted : SpD) (sp_met_from : SpD) : TSD :=
  sSeqD (sAsgD (tCallD sp_living (tConsD (tSlot 1) (tConsD (tSlot 2) (tNilD)))) (gNameD 3))
  (sSeqD (sIfD (tTst (tBin (rInY true) (tCD (.int 0)) (tSlot 3))) (sRetD (tTupD (tConsD (tSlot 0) (tConsD (tTupD (tConsD (tBin rMulD (tTupD (tConsD (tCD .non) (tNilD))) (tSlot 0)) (tNilD))) (tConsD (tTupD (tConsD (tCD (.bl false)) (tNilD))) (tNilD)))))) (sNextD))
  (sSeqD (sAsgD (tCallD sp_parted (tConsD (tSlot 1) (tConsD (tSlot 2) (tConsD (tLcV (iAnyD (tCallD sp_met_from (tConsD (tSlot 1) (tNilD)))) (gNameD 10) (tTst (tBin (rInY false) (tSlot 10) (tSlot 3))) (tSlot 10) [10]) (tNilD))))) (gNameD 4))
  (sSeqD (sPar3 5 6 7 (tConsD (tLstR (tConsD (tCD (.int 0)) (tNilD))) (tConsD (tDispR [(tBin rIxX (tSlot 4) (tCD (.int 0)), tCD (.int 0))]) (tConsD (tLstR (tNilD)) (tNilD)))))
  (sSeqD (sWhileD (tTst (tBin (rCmpI fLt) (tCallD rLenD (tConsD (tSlot 7) (tNilD))) (tCallD rLenD (tConsD (tSlot 5) (tNilD))))) (sSeqD (sAsgD (tLstR (tNilD)) (gNameD 8))
  (sSeqD (sForD (iAnyD (tBin rIxX (tSlot 1) (tBin rIxX (tSlot 5) (tCallD rLenD (tConsD (tSlot 7) (tNilD)))))) (gNameD 9) (sSeqD (sIfD (tAndD (tTst (tBin (rInY false) (tSlot 9) (tSlot 4))) (tTst (tBin (rInY true) (tBin rIxX (tSlot 4) (tSlot 9)) (tSlot 6)))) (sSeqD (sAsgD (tCallD rLenD (tConsD (tSlot 5) (tNilD))) (gSubX (tSlot 6) (tBin rIxX (tSlot 4) (tSlot 9))))
  (sDropD (tMethL rAppD (tSlot 5) (tConsD (tSlot 9) (tNilD))))) (sNextD))
  (sDropD (tMethL rAppD (tSlot 8) (tConsD (tIfD (tTst (tBin (rInY false) (tSlot 9) (tSlot 4))) (tBin rIxX (tSlot 6) (tBin rIxX (tSlot 4) (tSlot 9))) (tCD .non)) (tNilD))))))
  (sDropD (tMethL rAppD (tSlot 7) (tConsD (tCallD rTupleD (tConsD (tSlot 8) (tNilD))) (tNilD)))))))
  (sRetD (tTupD (tConsD (tSlot 0) (tConsD (tCallD rTupleD (tConsD (tSlot 7) (tNilD))) (tConsD (tCallD rTupleD (tConsD (tLcV (iAnyD (tSlot 5)) (gNameD 10) (tYesD) (tCallD rBoolD (tConsD (tBin rIxX (tSlot 2) (tSlot 10)) (tNilD))) [10]) (tNilD))) (tNilD))))))))))
theorem dv_shrunk (T : Txt K mg) (hB : SysB base) {k : Nat} {f : Addr} {cdv : Value} {A : Around} {outer : List Env} {s : Shared} {H : Hp} (hr : RoomG k (A.deeper (envOfC "shrunk" (defScope s_shrunk) s.heap.objs.size f cdv))) {sp_living : SpD} (h_living : Has P w K mg base k "living" ["rows", "ends"] sp_living) {sp_parted : SpD} (h_parted : Has P w K mg base k "parted" ["rows", "ends", "states"] sp_parted) {sp_met_from : SpD} (h_met_from : Has P w K mg base k "met_from" ["rows"] sp_met_from) :
    DSs (cxOf CX0 P w K mg base N_shrunk "shrunk" (defScope s_shrunk) f cdv A outer s H E0).nox (defBody s_shrunk) (rd_shrunk sp_living sp_parted sp_met_from) :=
  dss_cons (ds_set 3 sc_shrunk.nd (de_call h_living hr (da_cons (de_slot 1 (pv 1)) (da_cons (de_slot 2 (pv 2)) (da_nil)))))
    (dss_cons (ds_if (dt_notInY hr (de_int) (de_slot 3 (pv 3))) (dss_one (ds_ret (de_tup (da_cons (de_slot 0 (pv 0)) (da_cons (de_tup (da_cons (de_mul (de_tup (da_cons (de_non) (da_nil))) (de_slot 0 (pv 0))) (da_nil))) (da_cons (de_tup (da_cons (de_bl) (da_nil))) (da_nil))))))) (dss_nil))
    (dss_cons (ds_set 4 sc_shrunk.nd (de_call h_parted hr (da_cons (de_slot 1 (pv 1)) (da_cons (de_slot 2 (pv 2)) (da_cons (de_lcV (own := [("state", 10)]) sc_shrunk.nd (di_any (de_call h_met_from hr (da_cons (de_slot 1 (pv 1)) (da_nil)))) (blkOk_by (own := [("state", 10)]) (N := N_shrunk) (sc := defScope s_shrunk) (by decide +kernel)) (fun _ _ _ _ _ => dgw_name 10 (by decide) (pg_name (i := 10) sc_shrunk.nd rfl (Or.inl rfl))) (fun _ _ _ _ _ => dts_one (dt_inY hr (de_slot 10 (pv 10)) (de_slot 3 (pv 3)))) (fun _ _ _ _ _ => de_slot 10 (pv 10))) (da_nil))))))
    (dss_cons (ds_par3 5 6 7 sc_shrunk.nd (da_cons (de_lstR (da_cons (de_int) (da_nil))) (da_cons (de_dispR (dps_cons (de_ixX hr (de_slot 4 (pv 4)) (de_int)) (de_int) (dps_nil))) (da_cons (de_lstR (da_nil)) (da_nil)))))
    (dss_cons (ds_while PassesOwn.never (dt_lt (de_callB call_lenRD T.b_len bt_len (da_cons (de_slot 7 (pv 7)) (da_nil))) (de_callB call_lenRD T.b_len bt_len (da_cons (de_slot 5 (pv 5)) (da_nil)))) (dss_cons (ds_set 8 sc_shrunk.nd (de_lstR (da_nil)))
    (dss_cons (ds_for PassesOwn.never (di_any (de_ixX hr (de_slot 1 (pv 1)) (de_ixX hr (de_slot 5 (pv 5)) (de_callB call_lenRD T.b_len bt_len (da_cons (de_slot 7 (pv 7)) (da_nil)))))) (dg_name 9 (pg_name (i := 9) sc_shrunk.nd rfl (Or.inl rfl))) (dss_cons (ds_if (dt_w (dw_and (dt_inY hr (de_slot 9 (pv 9)) (de_slot 4 (pv 4))) (dw_and1 (dt_notInY hr (de_ixX hr (de_slot 4 (pv 4)) (de_slot 9 (pv 9))) (de_slot 6 (pv 6)))))) (dss_cons (ds_asg (de_callB call_lenRD T.b_len bt_len (da_cons (de_slot 5 (pv 5)) (da_nil))) (dg_subX hr (de_slot 6 (pv 6)) (de_ixX hr (de_slot 4 (pv 4)) (de_slot 9 (pv 9)))))
    (dss_one (ds_expr (de_append (de_slot 5 (pv 5)) (da_cons (de_slot 9 (pv 9)) (da_nil)))))) (dss_nil))
    (dss_one (ds_expr (de_append (de_slot 8 (pv 8)) (da_cons (de_if (dt_inY hr (de_slot 9 (pv 9)) (de_slot 4 (pv 4))) (de_ixX hr (de_slot 6 (pv 6)) (de_ixX hr (de_slot 4 (pv 4)) (de_slot 9 (pv 9)))) (de_non)) (da_nil)))))))
    (dss_one (ds_expr (de_append (de_slot 7 (pv 7)) (da_cons (de_callTy call_tupleRD T.b_tuple bt_tuple (da_cons (de_slot 8 (pv 8)) (da_nil))) (da_nil))))))))
    (dss_one (ds_ret (de_tup (da_cons (de_slot 0 (pv 0)) (da_cons (de_callTy call_tupleRD T.b_tuple bt_tuple (da_cons (de_slot 7 (pv 7)) (da_nil))) (da_cons (de_callTy call_tupleRD T.b_tuple bt_tuple (da_cons (de_lcV (own := [("state", 10)]) sc_shrunk.nd (di_any (de_slot 5 (pv 5))) (blkOk_by (own := [("state", 10)]) (N := N_shrunk) (sc := defScope s_shrunk) (by decide +kernel)) (fun _ _ _ _ _ => dgw_name 10 (by decide) (pg_name (i := 10) sc_shrunk.nd rfl (Or.inl rfl))) (fun _ _ _ _ _ => dts_nil) (fun _ _ _ _ _ => de_callTy call_boolRD T.b_bool bt_bool (da_cons (de_ixX hr (de_slot 2 (pv 2)) (de_slot 10 (pv 10))) (da_nil)))) (da_nil))) (da_nil)))))))))))
theorem mk_shrunk (D : DefOf K mg "shrunk" s_shrunk) (T : Txt K mg) (hB : SysB base) {k : Nat} {sp_living : SpD} (h_living : Has P w K mg base k "living" ["rows", "ends"] sp_living) {sp_parted : SpD} (h_parted : Has P w K mg base k "parted" ["rows", "ends", "states"] sp_parted) {sp_met_from : SpD} (h_met_from : Has P w K mg base k "met_from" ["rows"] sp_met_from) {sp : SpD} (len : ∀ ds S Q, sp ds S Q → ds.length = 3) (hq : ∀ ds S Qd, sp ds S Qd → rd_shrunk sp_living sp_parted sp_met_from { nx := fun _ S2 => fin Qd .non S2, rt := fin Qd, bk := fun _ _ => False, ct := fun _ _ => False } (pad 11 ds) S) : Has P w K mg base (k + 1) "shrunk" ["letters", "rows", "ends"] sp :=
  let ⟨f, fd, F, hm⟩ := D.ex
  .of F hm (F.binds fun _ _ _ _ _ _ us hl => match us, hl with | [_, _, _], _ => rfl) (FnD.of F sc_shrunk _ len (fun cdv A outer s H hr => dv_shrunk T hB hr h_living h_parted h_met_from) hq)
abbrev s_smallest : Stmt := top 9
abbrev N_smallest : List Str := ["machine"]
theorem sc_smallest : FnScope N_smallest ["machine"] (defScope s_smallest) := ⟨rfl, rfl, rfl, by decide +kernel, rfl, by decide +kernel, by decide +kernel⟩
def rd_smallest (sp_shrunk : SpD) : TSD :=
  sRetD (tCallD sp_shrunk (tConsD (tBin rIxX (tSlot 0) (tCD (.int 0))) (tConsD (tBin rIxX (tSlot 0) (tCD (.int 1))) (tConsD (tBin rIxX (tSlot 0) (tCD (.int 2))) (tNilD)))))
theorem dv_smallest (T : Txt K mg) (hB : SysB base) {k : Nat} {f : Addr} {cdv : Value} {A : Around} {outer : List Env} {s : Shared} {H : Hp} (hr : RoomG k (A.deeper (envOfC "smallest" (defScope s_smallest) s.heap.objs.size f cdv))) {sp_shrunk : SpD} (h_shrunk : Has P w K mg base k "shrunk" ["letters", "rows", "ends"] sp_shrunk) :
    DSs (cxOf CX0 P w K mg base N_smallest "smallest" (defScope s_smallest) f cdv A outer s H E0).nox (defBody s_smallest) (rd_smallest sp_shrunk) :=
  dss_one (ds_ret (de_call h_shrunk hr (da_cons (de_ixX hr (de_slot 0 (pv 0)) (de_int)) (da_cons (de_ixX hr (de_slot 0 (pv 0)) (de_int)) (da_cons (de_ixX hr (de_slot 0 (pv 0)) (de_int)) (da_nil))))))
theorem mk_smallest (D : DefOf K mg "smallest" s_smallest) (T : Txt K mg) (hB : SysB base) {k : Nat} {sp_shrunk : SpD} (h_shrunk : Has P w K mg base k "shrunk" ["letters", "rows", "ends"] sp_shrunk) {sp : SpD} (len : ∀ ds S Q, sp ds S Q → ds.length = 1) (hq : ∀ ds S Qd, sp ds S Qd → rd_smallest sp_shrunk { nx := fun _ S2 => fin Qd .non S2, rt := fin Qd, bk := fun _ _ => False, ct := fun _ _ => False } (pad 1 ds) S) : Has P w K mg base (k + 1) "smallest" ["machine"] sp :=
  let ⟨f, fd, F, hm⟩ := D.ex
  .of F hm (F.binds fun _ _ _ _ _ _ us hl => match us, hl with | [_], _ => rfl) (FnD.of F sc_smallest _ len (fun cdv A outer s H hr => dv_smallest T hB hr h_shrunk) hq)
abbrev s__law_deck : Stmt := top 11
abbrev N__law_deck : List Str := ["_law_script", "_law_cell"]
theorem sc__law_deck : FnScope N__law_deck ["_law_script"] (defScope s__law_deck) := ⟨rfl, rfl, rfl, by decide +kernel, rfl, by decide +kernel, by decide +kernel⟩
def rd__law_deck : TSD :=
  sRetD (tLstR (tConsD (tLcR (iSeqD (tSlD (tSlot 0) (oNone) (oSome (tCD (.int 63))))) (gNameD 1) (tYesD) (tCallD rAbsD (tConsD (tSlot 1) (tNilD))) [1]) (tConsD (tCD (.int 0)) (tNilD))))
theorem dv__law_deck (T : Txt K mg) (hB : SysB base) {k : Nat} {f : Addr} {cdv : Value} {A : Around} {outer : List Env} {s : Shared} {H : Hp} (hr : RoomG k (A.deeper (envOfC "_law_deck" (defScope s__law_deck) s.heap.objs.size f cdv))) :
    DSs (cxOf CX0 P w K mg base N__law_deck "_law_deck" (defScope s__law_deck) f cdv A outer s H E0).nox (defBody s__law_deck) (rd__law_deck) :=
  dss_one (ds_ret (de_lstR (da_cons (de_lcR (own := [("_law_cell", 1)]) sc__law_deck.nd (di_seq (de_slice (de_slot 0 (pv 0)) (do_none) (do_some (de_int)))) (blkOk_by (own := [("_law_cell", 1)]) (N := N__law_deck) (sc := defScope s__law_deck) (by decide +kernel)) (fun _ _ _ _ _ => dgw_name 1 (by decide) (pg_name (i := 1) sc__law_deck.nd rfl (Or.inl rfl))) (fun _ _ _ _ _ => dts_nil) (fun _ _ _ _ _ => de_callB call_absRD T.b_abs bt_abs (da_cons (de_slot 1 (pv 1)) (da_nil)))) (da_cons (de_int) (da_nil)))))
theorem mk__law_deck (D : DefOf K mg "_law_deck" s__law_deck) (T : Txt K mg) (hB : SysB base) {k : Nat} (ok : DeckOk rd__law_deck 2) : Has P w K mg base (k + 1) "_law_deck" ["_law_script"] spDeck :=
  let ⟨f, fd, F, hm⟩ := D.ex
  .of F hm (F.binds fun _ _ _ _ _ _ us hl => match us, hl with | [_], _ => rfl) (FnD.deck F sc__law_deck _ (fun cdv A outer s H hr => dv__law_deck T hB hr) ok)
abbrev s__law_draw : Stmt := top 12
abbrev N__law_draw : List Str := ["_law_deck_here", "_law_many", "_law_cell", "_law_at", "_law_mixed_here"]
theorem sc__law_draw : FnScope N__law_draw ["_law_deck_here", "_law_many"] (defScope s__law_draw) := ⟨rfl, rfl, rfl, by decide +kernel, rfl, by decide +kernel, by decide +kernel⟩
def rd__law_draw : TSD :=
  sSeqD (sAsgD (tBin rAddD (tBin rIxD (tSlot 0) (tCD (.int 1))) (tCD (.int 1))) (gSubD (tSlot 0) (tCD (.int 1))))
  (sSeqD (sAsgD (tTupD (tConsD (tCD (.int 0)) (tConsD (tUnD rNeg (tCD (.int 1))) (tNilD)))) (gTupD 2 (gConsD (gNameD 2) (gConsD (gNameD 3) (gNilD)))))
  (sSeqD (sIfD (tTst (tBin (rCmpI fGt) (tCallD rLenD (tConsD (tBin rIxD (tSlot 0) (tCD (.int 0))) (tNilD))) (tCD (.int 0)))) (sSeqD (sAsgD (tBin rModD (tCallD rIntD (tConsD (tBin rIxD (tSlot 0) (tCD (.int 1))) (tNilD))) (tCallD rLenD (tConsD (tBin rIxD (tSlot 0) (tCD (.int 0))) (tNilD)))) (gNameD 3))
  (sAsgD (tBin rIxD (tBin rIxD (tSlot 0) (tCD (.int 0))) (tSlot 3)) (gNameD 2))) (sNextD))
  (sSeqD (sIfD (tTst (tBin (rCmpI fGe) (tSlot 2) (tBin rPowD (tCD (.int 10)) (tCD (.int 18))))) (sSeqD (sAsgD (tBin rFdivD (tCallD rIntD (tConsD (tSlot 2) (tNilD))) (tSlot 1)) (gSubD (tBin rIxD (tSlot 0) (tCD (.int 0))) (tSlot 3)))
  (sRetD (tBin rModD (tCallD rIntD (tConsD (tSlot 2) (tNilD))) (tSlot 1)))) (sNextD))
  (sSeqD (sAsgD (tBin rAddD (tBin rAddD (tBin rModD (tCallD rIntD (tConsD (tSlot 2) (tNilD))) (tCD (.int 2147483563))) (tBin rMulD (tCD (.int 8117)) (tBin rIxD (tSlot 0) (tCD (.int 1))))) (tCD (.int 3))) (gNameD 4))
  (sRetD (tBin rModD (tCallD rIntD (tConsD (tBin rModD (tCallD rIntD (tConsD (tBin rPowD (tSlot 4) (tCD (.int 5))) (tNilD))) (tCD (.int 2147483629))) (tNilD))) (tSlot 1)))))))
theorem dv__law_draw (T : Txt K mg) (hB : SysB base) {k : Nat} {f : Addr} {cdv : Value} {A : Around} {outer : List Env} {s : Shared} {H : Hp} (hr : RoomG k (A.deeper (envOfC "_law_draw" (defScope s__law_draw) s.heap.objs.size f cdv))) :
    DSs (cxOf CX0 P w K mg base N__law_draw "_law_draw" (defScope s__law_draw) f cdv A outer s H E0).nox (defBody s__law_draw) (rd__law_draw) :=
  dss_cons (ds_asg (de_add (de_ix (de_slot 0 (pv 0)) (de_int)) (de_int)) (dg_sub (de_slot 0 (pv 0)) (de_int)))
    (dss_cons (ds_asg (de_tup (da_cons (de_int) (da_cons (de_neg (de_int)) (da_nil)))) (dg_tup rfl (dgs_cons (dg_name 2 (pg_name (i := 2) sc__law_draw.nd rfl (Or.inl rfl))) (dgs_cons (dg_name 3 (pg_name (i := 3) sc__law_draw.nd rfl (Or.inl rfl))) (dgs_nil)))))
    (dss_cons (ds_if (dt_gt (de_callB call_lenRD T.b_len bt_len (da_cons (de_ix (de_slot 0 (pv 0)) (de_int)) (da_nil))) (de_int)) (dss_cons (ds_set 3 sc__law_draw.nd (de_mod (de_callTy call_intRD T.b_int bt_int (da_cons (de_ix (de_slot 0 (pv 0)) (de_int)) (da_nil))) (de_callB call_lenRD T.b_len bt_len (da_cons (de_ix (de_slot 0 (pv 0)) (de_int)) (da_nil)))))
    (dss_one (ds_set 2 sc__law_draw.nd (de_ix (de_ix (de_slot 0 (pv 0)) (de_int)) (de_slot 3 (pv 3)))))) (dss_nil))
    (dss_cons (ds_if (dt_ge (de_slot 2 (pv 2)) (de_pow (de_int) (de_int))) (dss_cons (ds_asg (de_fdiv (de_callTy call_intRD T.b_int bt_int (da_cons (de_slot 2 (pv 2)) (da_nil))) (de_slot 1 (pv 1))) (dg_sub (de_ix (de_slot 0 (pv 0)) (de_int)) (de_slot 3 (pv 3))))
    (dss_one (ds_ret (de_mod (de_callTy call_intRD T.b_int bt_int (da_cons (de_slot 2 (pv 2)) (da_nil))) (de_slot 1 (pv 1)))))) (dss_nil))
    (dss_cons (ds_set 4 sc__law_draw.nd (de_add (de_add (de_mod (de_callTy call_intRD T.b_int bt_int (da_cons (de_slot 2 (pv 2)) (da_nil))) (de_int)) (de_mul (de_int) (de_ix (de_slot 0 (pv 0)) (de_int)))) (de_int)))
    (dss_one (ds_ret (de_mod (de_callTy call_intRD T.b_int bt_int (da_cons (de_mod (de_callTy call_intRD T.b_int bt_int (da_cons (de_pow (de_slot 4 (pv 4)) (de_int)) (da_nil))) (de_int)) (da_nil))) (de_slot 1 (pv 1)))))))))
theorem mk__law_draw (D : DefOf K mg "_law_draw" s__law_draw) (T : Txt K mg) (hB : SysB base) {k : Nat} (ok : DrawOk rd__law_draw 5) : Has P w K mg base (k + 1) "_law_draw" ["_law_deck_here", "_law_many"] spDraw :=
  let ⟨f, fd, F, hm⟩ := D.ex
  .of F hm (F.binds fun _ _ _ _ _ _ us hl => match us, hl with | [_, _], _ => rfl) (FnD.draw F sc__law_draw _ (fun cdv A outer s H hr => dv__law_draw T hB hr) ok)
abbrev s__law_one : Stmt := top 13
abbrev N__law_one : List Str := ["_law_deck_here", "_law_items"]
theorem sc__law_one : FnScope N__law_one ["_law_deck_here", "_law_items"] (defScope s__law_one) := ⟨rfl, rfl, rfl, by decide +kernel, rfl, by decide +kernel, by decide +kernel⟩
def rd__law_one (sp__law_draw : SpD) : TSD :=
  sRetD (tBin rIxD (tSlot 1) (tCallD sp__law_draw (tConsD (tSlot 0) (tConsD (tCallD rLenD (tConsD (tSlot 1) (tNilD))) (tNilD)))))
theorem dv__law_one (T : Txt K mg) (hB : SysB base) {k : Nat} {f : Addr} {cdv : Value} {A : Around} {outer : List Env} {s : Shared} {H : Hp} (hr : RoomG k (A.deeper (envOfC "_law_one" (defScope s__law_one) s.heap.objs.size f cdv))) {sp__law_draw : SpD} (h__law_draw : Has P w K mg base k "_law_draw" ["_law_deck_here", "_law_many"] sp__law_draw) :
    DSs (cxOf CX0 P w K mg base N__law_one "_law_one" (defScope s__law_one) f cdv A outer s H E0).nox (defBody s__law_one) (rd__law_one sp__law_draw) :=
  dss_one (ds_ret (de_ix (de_slot 1 (pv 1)) (de_call h__law_draw hr (da_cons (de_slot 0 (pv 0)) (da_cons (de_callB call_lenRD T.b_len bt_len (da_cons (de_slot 1 (pv 1)) (da_nil))) (da_nil))))))
theorem mk__law_one (D : DefOf K mg "_law_one" s__law_one) (T : Txt K mg) (hB : SysB base) {k : Nat} {sp__law_draw : SpD} (h__law_draw : Has P w K mg base k "_law_draw" ["_law_deck_here", "_law_many"] sp__law_draw) {sp : SpD} (len : ∀ ds S Q, sp ds S Q → ds.length = 2) (hq : ∀ ds S Qd, sp ds S Qd → rd__law_one sp__law_draw { nx := fun _ S2 => fin Qd .non S2, rt := fin Qd, bk := fun _ _ => False, ct := fun _ _ => False } (pad 2 ds) S) : Has P w K mg base (k + 1) "_law_one" ["_law_deck_here", "_law_items"] sp :=
  let ⟨f, fd, F, hm⟩ := D.ex
  .of F hm (F.binds fun _ _ _ _ _ _ us hl => match us, hl with | [_, _], _ => rfl) (FnD.of F sc__law_one _ len (fun cdv A outer s H hr => dv__law_one T hB hr h__law_draw) hq)
abbrev s__law_machine : Stmt := top 14
abbrev N__law_machine : List Str := ["_law_deck_here", "_law_letters", "_law_most", "_law_many", "_law_way", "_law_rows", "_law_state", "_law_further", "_law_items", "_law_often", "_law_at", "_law_item"]
theorem sc__law_machine : FnScope N__law_machine ["_law_deck_here", "_law_letters", "_law_most"] (defScope s__law_machine) := ⟨rfl, rfl, rfl, by decide +kernel, rfl, by decide +kernel, by decide +kernel⟩
def rd__law_machine (sp__law_draw : SpD) (sp__law_one : SpD) : TSD :=
  sSeqD (sAsgD (tTupD (tConsD (tBin rAddD (tCD (.int 1)) (tCallD sp__law_draw (tConsD (tSlot 0) (tConsD (tSlot 2) (tNilD))))) (tConsD (tCallD sp__law_draw (tConsD (tSlot 0) (tConsD (tCD (.int 5)) (tNilD)))) (tConsD (tLstR (tNilD)) (tNilD))))) (gTupD 3 (gConsD (gNameD 3) (gConsD (gNameD 4) (gConsD (gNameD 5) (gNilD))))))
  (sSeqD (sForD (iRng1D (tConsD (tSlot 3) (tNilD))) (gNameD 6) (sIfD (tTst (tBin rEqD (tSlot 4) (tCD (.int 0)))) (sDropD (tMethL rAppD (tSlot 5) (tConsD (tCallD rTupleD (tConsD (tLcV (iRng1D (tConsD (tSlot 1) (tNilD))) (gNameD 10) (tYesD) (tBin rModD (tCallD rIntD (tConsD (tBin rAddD (tSlot 6) (tCD (.int 1))) (tNilD))) (tSlot 3)) [10]) (tNilD))) (tNilD)))) (sIfD (tTst (tBin rEqD (tSlot 4) (tCD (.int 1)))) (sSeqD (sAsgD (tLstV (tConsD (tIfD (tTst (tBin (rCmpI fLt) (tBin rAddD (tSlot 6) (tCD (.int 1))) (tSlot 3))) (tBin rAddD (tSlot 6) (tCD (.int 1))) (tCD .non)) (tConsD (tSlot 6) (tConsD (tCD .non) (tNilD))))) (gNameD 7))
  (sDropD (tMethL rAppD (tSlot 5) (tConsD (tCallD rTupleD (tConsD (tLcV (iRng1D (tConsD (tSlot 1) (tNilD))) (gNameD 10) (tYesD) (tCallD sp__law_one (tConsD (tSlot 0) (tConsD (tSlot 7) (tNilD)))) [10]) (tNilD))) (tNilD))))) (sSeqD (sAsgD (tLcV (iRng1D (tConsD (tSlot 1) (tNilD))) (gNameD 10) (tYesD) (tCallD sp__law_draw (tConsD (tSlot 0) (tConsD (tSlot 3) (tNilD)))) [10]) (gNameD 8))
  (sDropD (tMethL rAppD (tSlot 5) (tConsD (tCallD rTupleD (tConsD (tLcV (iAnyD (tSlot 8)) (gNameD 11) (tYesD) (tIfD (tTst (tBin rEqD (tCallD sp__law_draw (tConsD (tSlot 0) (tConsD (tBin rAddD (tCD (.int 3)) (tSlot 4)) (tNilD)))) (tCD (.int 0)))) (tCD .non) (tSlot 11)) [11]) (tNilD))) (tNilD))))))))
  (sSeqD (sAsgD (tCallD sp__law_one (tConsD (tSlot 0) (tConsD (tLstV (tConsD (tCD (.int 2)) (tConsD (tCD (.int 2)) (tConsD (tCD (.int 3)) (tConsD (tCD (.int 5)) (tNilD)))))) (tNilD)))) (gNameD 9))
  (sRetD (tTupD (tConsD (tSlot 1) (tConsD (tCallD rTupleD (tConsD (tSlot 5) (tNilD))) (tConsD (tCallD rTupleD (tConsD (tLcV (iRng1D (tConsD (tSlot 3) (tNilD))) (gNameD 6) (tYesD) (tBin rEqD (tCallD sp__law_draw (tConsD (tSlot 0) (tConsD (tSlot 9) (tNilD)))) (tCD (.int 0))) [6]) (tNilD))) (tNilD))))))))
theorem dv__law_machine (T : Txt K mg) (hB : SysB base) {k : Nat} {f : Addr} {cdv : Value} {A : Around} {outer : List Env} {s : Shared} {H : Hp} (hr : RoomG k (A.deeper (envOfC "_law_machine" (defScope s__law_machine) s.heap.objs.size f cdv))) {sp__law_draw : SpD} (h__law_draw : Has P w K mg base k "_law_draw" ["_law_deck_here", "_law_many"] sp__law_draw) {sp__law_one : SpD} (h__law_one : Has P w K mg base k "_law_one" ["_law_deck_here", "_law_items"] sp__law_one) :
    DSs (cxOf CX0 P w K mg base N__law_machine "_law_machine" (defScope s__law_machine) f cdv A outer s H E0).nox (defBody s__law_machine) (rd__law_machine sp__law_draw sp__law_one) :=
  dss_cons (ds_asg (de_tup (da_cons (de_add (de_int) (de_call h__law_draw hr (da_cons (de_slot 0 (pv 0)) (da_cons (de_slot 2 (pv 2)) (da_nil))))) (da_cons (de_call h__law_draw hr (da_cons (de_slot 0 (pv 0)) (da_cons (de_int) (da_nil)))) (da_cons (de_lstR (da_nil)) (da_nil))))) (dg_tup rfl (dgs_cons (dg_name 3 (pg_name (i := 3) sc__law_machine.nd rfl (Or.inr rfl))) (dgs_cons (dg_name 4 (pg_name (i := 4) sc__law_machine.nd rfl (Or.inr rfl))) (dgs_cons (dg_name 5 (pg_name (i := 5) sc__law_machine.nd rfl (Or.inl rfl))) (dgs_nil))))))
    (dss_cons (ds_for PassesOwn.never (di_range1 T.b_range (da_cons (de_slot 3 (pv 3)) (da_nil))) (dg_name 6 (pg_name (i := 6) sc__law_machine.nd rfl (Or.inr rfl))) (dss_one (ds_if (dt_eq hr hB (de_slot 4 (pv 4)) (de_int)) (dss_one (ds_expr (de_append (de_slot 5 (pv 5)) (da_cons (de_callTy call_tupleRD T.b_tuple bt_tuple (da_cons (de_lcV (own := [("_law_at", 10)]) sc__law_machine.nd (di_range1 T.b_range (da_cons (de_slot 1 (pv 1)) (da_nil))) (blkOk_by (own := [("_law_at", 10)]) (N := N__law_machine) (sc := defScope s__law_machine) (by decide +kernel)) (fun _ _ _ _ _ => dgw_name 10 (by decide) (pg_name (i := 10) sc__law_machine.nd rfl (Or.inl rfl))) (fun _ _ _ _ _ => dts_nil) (fun _ _ _ _ _ => de_mod (de_callTy call_intRD T.b_int bt_int (da_cons (de_add (de_slot 6 (pv 6)) (de_int)) (da_nil))) (de_slot 3 (pv 3)))) (da_nil))) (da_nil))))) (dss_one (ds_if (dt_eq hr hB (de_slot 4 (pv 4)) (de_int)) (dss_cons (ds_set 7 sc__law_machine.nd (de_lstV (da_cons (de_if (dt_lt (de_add (de_slot 6 (pv 6)) (de_int)) (de_slot 3 (pv 3))) (de_add (de_slot 6 (pv 6)) (de_int)) (de_non)) (da_cons (de_slot 6 (pv 6)) (da_cons (de_non) (da_nil))))))
    (dss_one (ds_expr (de_append (de_slot 5 (pv 5)) (da_cons (de_callTy call_tupleRD T.b_tuple bt_tuple (da_cons (de_lcV (own := [("_law_at", 10)]) sc__law_machine.nd (di_range1 T.b_range (da_cons (de_slot 1 (pv 1)) (da_nil))) (blkOk_by (own := [("_law_at", 10)]) (N := N__law_machine) (sc := defScope s__law_machine) (by decide +kernel)) (fun _ _ _ _ _ => dgw_name 10 (by decide) (pg_name (i := 10) sc__law_machine.nd rfl (Or.inl rfl))) (fun _ _ _ _ _ => dts_nil) (fun _ _ _ _ _ => de_call h__law_one hr (da_cons (de_slot 0 (pv 0)) (da_cons (de_slot 7 (pv 7)) (da_nil))))) (da_nil))) (da_nil)))))) (dss_cons (ds_setLcV 8 (own := [("_law_at", 10)]) sc__law_machine.nd (di_range1 T.b_range (da_cons (de_slot 1 (pv 1)) (da_nil))) (blkOk_by (own := [("_law_at", 10)]) (N := N__law_machine) (sc := defScope s__law_machine) (by decide +kernel)) (fun _ _ _ _ _ => dgw_name 10 (by decide) (pg_name (i := 10) sc__law_machine.nd rfl (Or.inl rfl))) (fun _ _ _ _ _ => dts_nil) (fun _ _ _ _ _ => de_call h__law_draw hr (da_cons (de_slot 0 (pv 0)) (da_cons (de_slot 3 (pv 3)) (da_nil)))))
    (dss_one (ds_expr (de_append (de_slot 5 (pv 5)) (da_cons (de_callTy call_tupleRD T.b_tuple bt_tuple (da_cons (de_lcV (own := [("_law_item", 11)]) sc__law_machine.nd (di_any (de_slot 8 (pv 8))) (blkOk_by (own := [("_law_item", 11)]) (N := N__law_machine) (sc := defScope s__law_machine) (by decide +kernel)) (fun _ _ _ _ _ => dgw_name 11 (by decide) (pg_name (i := 11) sc__law_machine.nd rfl (Or.inl rfl))) (fun _ _ _ _ _ => dts_nil) (fun _ _ _ _ _ => de_if (dt_eq hr hB (de_call h__law_draw hr (da_cons (de_slot 0 (pv 0)) (da_cons (de_add (de_int) (de_slot 4 (pv 4))) (da_nil)))) (de_int)) (de_non) (de_slot 11 (pv 11)))) (da_nil))) (da_nil)))))))))))
    (dss_cons (ds_set 9 sc__law_machine.nd (de_call h__law_one hr (da_cons (de_slot 0 (pv 0)) (da_cons (de_lstV (da_cons (de_int) (da_cons (de_int) (da_cons (de_int) (da_cons (de_int) (da_nil)))))) (da_nil)))))
    (dss_one (ds_ret (de_tup (da_cons (de_slot 1 (pv 1)) (da_cons (de_callTy call_tupleRD T.b_tuple bt_tuple (da_cons (de_slot 5 (pv 5)) (da_nil))) (da_cons (de_callTy call_tupleRD T.b_tuple bt_tuple (da_cons (de_lcV (own := [("_law_state", 6)]) sc__law_machine.nd (di_range1 T.b_range (da_cons (de_slot 3 (pv 3)) (da_nil))) (blkOk_by (own := [("_law_state", 6)]) (N := N__law_machine) (sc := defScope s__law_machine) (by decide +kernel)) (fun _ _ _ _ _ => dgw_name 6 (by decide) (pg_name (i := 6) sc__law_machine.nd rfl (Or.inl rfl))) (fun _ _ _ _ _ => dts_nil) (fun _ _ _ _ _ => de_eq hr hB (de_call h__law_draw hr (da_cons (de_slot 0 (pv 0)) (da_cons (de_slot 9 (pv 9)) (da_nil)))) (de_int))) (da_nil))) (da_nil)))))))))
theorem mk__law_machine (D : DefOf K mg "_law_machine" s__law_machine) (T : Txt K mg) (hB : SysB base) {k : Nat} {sp__law_draw : SpD} (h__law_draw : Has P w K mg base k "_law_draw" ["_law_deck_here", "_law_many"] sp__law_draw) {sp__law_one : SpD} (h__law_one : Has P w K mg base k "_law_one" ["_law_deck_here", "_law_items"] sp__law_one) {sp : SpD} (len : ∀ ds S Q, sp ds S Q → ds.length = 3) (hq : ∀ ds S Qd, sp ds S Qd → rd__law_machine sp__law_draw sp__law_one { nx := fun _ S2 => fin Qd .non S2, rt := fin Qd, bk := fun _ _ => False, ct := fun _ _ => False } (pad 12 ds) S) : Has P w K mg base (k + 1) "_law_machine" ["_law_deck_here", "_law_letters", "_law_most"] sp :=
  let ⟨f, fd, F, hm⟩ := D.ex
  .of F hm (F.binds fun _ _ _ _ _ _ us hl => match us, hl with | [_, _, _], _ => rfl) (FnD.of F sc__law_machine _ len (fun cdv A outer s H hr => dv__law_machine T hB hr h__law_draw h__law_one) hq)
abbrev s__law_met : Stmt := top 15
abbrev N__law_met : List Str := ["_law_rows", "_law_found", "_law_at", "_law_item"]
theorem sc__law_met : FnScope N__law_met ["_law_rows"] (defScope s__law_met) := ⟨rfl, rfl, rfl, by decide +kernel, rfl, by decide +kernel, by decide +kernel⟩
def rd__law_met : TSD :=
  sSeqD (sPar2 1 2 (tConsD (tLstR (tConsD (tCD (.int 0)) (tNilD))) (tConsD (tCD (.int 0)) (tNilD))))
  (sSeqD (sWhileD (tTst (tBin (rCmpI fLt) (tSlot 2) (tCallD rLenD (tConsD (tSlot 1) (tNilD))))) (sSeqD (sForD (iAnyD (tBin rIxX (tSlot 0) (tBin rIxX (tSlot 1) (tSlot 2)))) (gNameD 3) (sIfD (tAndD (tTst (tUnD rNotN (tSlot 3))) (tTst (tBin (rInZ true) (tSlot 3) (tSlot 1)))) (sDropD (tMethL rAppD (tSlot 1) (tConsD (tSlot 3) (tNilD)))) (sNextD)))
  (sAsgD (tBin rAddD (tSlot 2) (tCD (.int 1))) (gNameD 2))))
  (sRetD (tSlot 1)))
theorem dv__law_met (T : Txt K mg) (hB : SysB base) {k : Nat} {f : Addr} {cdv : Value} {A : Around} {outer : List Env} {s : Shared} {H : Hp} (hr : RoomG k (A.deeper (envOfC "_law_met" (defScope s__law_met) s.heap.objs.size f cdv))) :
    DSs (cxOf CX0 P w K mg base N__law_met "_law_met" (defScope s__law_met) f cdv A outer s H E0).nox (defBody s__law_met) (rd__law_met) :=
  dss_cons (ds_par 1 2 sc__law_met.nd (da_cons (de_lstR (da_cons (de_int) (da_nil))) (da_cons (de_int) (da_nil))))
    (dss_cons (ds_while PassesOwn.never (dt_lt (de_slot 2 (pv 2)) (de_callB call_lenRD T.b_len bt_len (da_cons (de_slot 1 (pv 1)) (da_nil)))) (dss_cons (ds_for PassesOwn.never (di_any (de_ixX hr (de_slot 0 (pv 0)) (de_ixX hr (de_slot 1 (pv 1)) (de_slot 2 (pv 2))))) (dg_name 3 (pg_name (i := 3) sc__law_met.nd rfl (Or.inl rfl))) (dss_one (ds_if (dt_w (dw_and (dt_notN (de_slot 3 (pv 3))) (dw_and1 (dt_notInZ hr (de_slot 3 (pv 3)) (de_slot 1 (pv 1)))))) (dss_one (ds_expr (de_append (de_slot 1 (pv 1)) (da_cons (de_slot 3 (pv 3)) (da_nil))))) (dss_nil))))
    (dss_one (ds_set 2 sc__law_met.nd (de_add (de_slot 2 (pv 2)) (de_int))))))
    (dss_one (ds_ret (de_slot 1 (pv 1)))))
theorem mk__law_met (D : DefOf K mg "_law_met" s__law_met) (T : Txt K mg) (hB : SysB base) {k : Nat} {sp : SpD} (len : ∀ ds S Q, sp ds S Q → ds.length = 1) (hq : ∀ ds S Qd, sp ds S Qd → rd__law_met { nx := fun _ S2 => fin Qd .non S2, rt := fin Qd, bk := fun _ _ => False, ct := fun _ _ => False } (pad 4 ds) S) : Has P w K mg base (k + 1) "_law_met" ["_law_rows"] sp :=
  let ⟨f, fd, F, hm⟩ := D.ex
  .of F hm (F.binds fun _ _ _ _ _ _ us hl => match us, hl with | [_], _ => rfl) (FnD.of F sc__law_met _ len (fun cdv A outer s H hr => dv__law_met T hB hr) hq)
abbrev s__law_open : Stmt := top 16
abbrev N__law_open : List Str := ["_law_rows", "_law_ends", "_law_found", "_law_many", "_law_back", "_law_state", "_law_item"]
theorem sc__law_open : FnScope N__law_open ["_law_rows", "_law_ends"] (defScope s__law_open) := ⟨rfl, rfl, rfl, by decide +kernel, rfl, by decide +kernel, by decide +kernel⟩
def rd__law_open (w : World) : TSD :=
  sSeqD (sAsgD (tTupD (tConsD (tCallD rDictP (tConsD (tLcV (iRng1D (tConsD (tCallD (rLenW w) (tConsD (tSlot 0) (tNilD))) (tNilD))) (gNameD 5) (tTst (tBin (rIxW w) (tSlot 1) (tSlot 5))) (tTupD (tConsD (tSlot 5) (tConsD (tCD (.bl true)) (tNilD)))) [5]) (tNilD))) (tConsD (tUnD rNeg (tCD (.int 1))) (tNilD)))) (gTupD 2 (gConsD (gNameD 2) (gConsD (gNameD 3) (gNilD)))))
  (sSeqD (sWhileD (tTst (tBin rNeD (tCallD (rLenW w) (tConsD (tSlot 2) (tNilD))) (tSlot 3))) (sSeqD (sAsgD (tCallD (rLenW w) (tConsD (tSlot 2) (tNilD))) (gNameD 3))
  (sForD (iRng1D (tConsD (tCallD (rLenW w) (tConsD (tSlot 0) (tNilD))) (tNilD))) (gNameD 4) (sSeqD (sAsgD (tBin rSubD (tBin rSubD (tCallD (rLenW w) (tConsD (tSlot 0) (tNilD))) (tCD (.int 1))) (tSlot 4)) (gNameD 5))
  (sIfD (tAndD (tTst (tBin (rInW w true) (tSlot 5) (tSlot 2))) (tTst (tBin rNeD (tLcV (iAnyD (tBin (rIxW w) (tSlot 0) (tSlot 5))) (gNameD 6) (tTst (tBin (rInW w false) (tSlot 6) (tSlot 2))) (tSlot 6) [6]) (tLstV (tNilD))))) (sAsgD (tCD (.bl true)) (gSubW w (tSlot 2) (tSlot 5))) (sNextD))))))
  (sRetD (tSlot 2)))
theorem dv__law_open (T : Txt K mg) (hB : SysB base) {k : Nat} {f : Addr} {cdv : Value} {A : Around} {outer : List Env} {s : Shared} {H : Hp} (hr : RoomG k (A.deeper (envOfC "_law_open" (defScope s__law_open) s.heap.objs.size f cdv))) :
    DSs (cxOf CX0 P w K mg base N__law_open "_law_open" (defScope s__law_open) f cdv A outer s H E0).nox (defBody s__law_open) (rd__law_open w) :=
  dss_cons (ds_asg (de_tup (da_cons (de_callTy (call_dictP rfl) T.b_dict bt_dict (da_cons (de_lcV (own := [("_law_state", 5)]) sc__law_open.nd (di_range1 T.b_range (da_cons (de_callB call_lenW T.b_len bt_len (da_cons (de_slot 0 (pv 0)) (da_nil))) (da_nil))) (blkOk_by (own := [("_law_state", 5)]) (N := N__law_open) (sc := defScope s__law_open) (by decide +kernel)) (fun _ _ _ _ _ => dgw_name 5 (by decide) (pg_name (i := 5) sc__law_open.nd rfl (Or.inl rfl))) (fun _ _ _ _ _ => dts_one (dt_val (de_ixW hr (de_slot 1 (pv 1)) (de_slot 5 (pv 5))))) (fun _ _ _ _ _ => de_tup (da_cons (de_slot 5 (pv 5)) (da_cons (de_bl) (da_nil))))) (da_nil))) (da_cons (de_neg (de_int)) (da_nil)))) (dg_tup rfl (dgs_cons (dg_name 2 (pg_name (i := 2) sc__law_open.nd rfl (Or.inr rfl))) (dgs_cons (dg_name 3 (pg_name (i := 3) sc__law_open.nd rfl (Or.inl rfl))) (dgs_nil)))))
    (dss_cons (ds_while PassesOwn.never (dt_ne hr hB (de_callB call_lenW T.b_len bt_len (da_cons (de_slot 2 (pv 2)) (da_nil))) (de_slot 3 (pv 3))) (dss_cons (ds_set 3 sc__law_open.nd (de_callB call_lenW T.b_len bt_len (da_cons (de_slot 2 (pv 2)) (da_nil))))
    (dss_one (ds_for PassesOwn.never (di_range1 T.b_range (da_cons (de_callB call_lenW T.b_len bt_len (da_cons (de_slot 0 (pv 0)) (da_nil))) (da_nil))) (dg_name 4 (pg_name (i := 4) sc__law_open.nd rfl (Or.inl rfl))) (dss_cons (ds_set 5 sc__law_open.nd (de_sub (de_sub (de_callB call_lenW T.b_len bt_len (da_cons (de_slot 0 (pv 0)) (da_nil))) (de_int)) (de_slot 4 (pv 4))))
    (dss_one (ds_if (dt_w (dw_and (dt_notInW hr (de_slot 5 (pv 5)) (de_slot 2 (pv 2))) (dw_and1 (dt_ne hr hB (de_lcV (own := [("_law_item", 6)]) sc__law_open.nd (di_any (de_ixW hr (de_slot 0 (pv 0)) (de_slot 5 (pv 5)))) (blkOk_by (own := [("_law_item", 6)]) (N := N__law_open) (sc := defScope s__law_open) (by decide +kernel)) (fun _ _ _ _ _ => dgw_name 6 (by decide) (pg_name (i := 6) sc__law_open.nd rfl (Or.inl rfl))) (fun _ _ _ _ _ => dts_one (dt_inW hr (de_slot 6 (pv 6)) (de_slot 2 (pv 2)))) (fun _ _ _ _ _ => de_slot 6 (pv 6))) (de_lstV (da_nil)))))) (dss_one (ds_asg (de_bl) (dg_subW hr (de_slot 2 (pv 2)) (de_slot 5 (pv 5))))) (dss_nil))))))))
    (dss_one (ds_ret (de_slot 2 (pv 2)))))
theorem mk__law_open (D : DefOf K mg "_law_open" s__law_open) (T : Txt K mg) (hB : SysB base) {k : Nat} {sp : SpD} (len : ∀ ds S Q, sp ds S Q → ds.length = 2) (hq : ∀ ds S Qd, sp ds S Qd → rd__law_open w { nx := fun _ S2 => fin Qd .non S2, rt := fin Qd, bk := fun _ _ => False, ct := fun _ _ => False } (pad 7 ds) S) : Has P w K mg base (k + 1) "_law_open" ["_law_rows", "_law_ends"] sp :=
  let ⟨f, fd, F, hm⟩ := D.ex
  .of F hm (F.binds fun _ _ _ _ _ _ us hl => match us, hl with | [_, _], _ => rfl) (FnD.of F sc__law_open _ len (fun cdv A outer s H hr => dv__law_open T hB hr) hq)
abbrev s__law_least : Stmt := top 17
abbrev N__law_least : List Str := ["_law_letters", "_law_rows", "_law_ends", "_law_alive", "_law_states", "_law_held", "_law_many", "_law_one_here", "_law_other", "_law_heads", "_law_state", "_law_found", "_law_head", "_law_row", "_law_item", "_law_same", "_law_at"]
theorem sc__law_least : FnScope N__law_least ["_law_letters", "_law_rows", "_law_ends"] (defScope s__law_least) := ⟨rfl, rfl, rfl, by decide +kernel, rfl, by decide +kernel, by decide +kernel⟩
def rd__law_least (w : World) (sp__law_open : SpD) (sp__law_met : SpD) (sp__law_are_apart : SpD) : TSD :=
  sSeqD (sAsgD (tCallD sp__law_open (tConsD (tSlot 1) (tConsD (tSlot 2) (tNilD)))) (gNameD 3))
  (sSeqD (sIfD (tTst (tBin (rInW w true) (tCD (.int 0)) (tSlot 3))) (sRetD (tTupD (tConsD (tSlot 0) (tConsD (tTupD (tConsD (tBin rMulD (tTupD (tConsD (tCD .non) (tNilD))) (tSlot 0)) (tNilD))) (tConsD (tTupD (tConsD (tCD (.bl false)) (tNilD))) (tNilD)))))) (sNextD))
  (sSeqD (sAsgD (tLcV (iAnyD (tCallD sp__law_met (tConsD (tSlot 1) (tNilD)))) (gNameD 10) (tTst (tBin (rInW w false) (tSlot 10) (tSlot 3))) (tSlot 10) [10]) (gNameD 4))
  (sSeqD (sAsgD (tTupD (tConsD (tDicW w) (tConsD (tUnD rNeg (tCD (.int 1))) (tNilD)))) (gTupD 2 (gConsD (gNameD 5) (gConsD (gNameD 6) (gNilD)))))
  (sSeqD (sWhileD (tTst (tBin rNeD (tCallD (rLenW w) (tConsD (tSlot 5) (tNilD))) (tSlot 6))) (sSeqD (sAsgD (tCallD (rLenW w) (tConsD (tSlot 5) (tNilD))) (gNameD 6))
  (sForD (iAnyD (tSlot 4)) (gNameD 7) (sForD (iAnyD (tSlot 4)) (gNameD 8) (sIfD (tAndD (tTst (tBin (rInW w true) (tTupD (tConsD (tSlot 7) (tConsD (tSlot 8) (tNilD)))) (tSlot 5))) (tTst (tCallD sp__law_are_apart (tConsD (tSlot 1) (tConsD (tSlot 2) (tConsD (tSlot 3) (tConsD (tSlot 5) (tConsD (tTupD (tConsD (tSlot 7) (tConsD (tSlot 8) (tNilD)))) (tNilD))))))))) (sAsgD (tCD (.bl true)) (gSubW w (tSlot 5) (tTupD (tConsD (tSlot 7) (tConsD (tSlot 8) (tNilD)))))) (sNextD))))))
  (sSeqD (sAsgD (tLstR (tNilD)) (gNameD 9))
  (sSeqD (sForD (iAnyD (tSlot 4)) (gNameD 10) (sIfD (tTst (tBin rEqD (tLcV (iAnyD (tSlot 9)) (gNameD 12) (tTst (tBin (rInW w true) (tTupD (tConsD (tSlot 12) (tConsD (tSlot 10) (tNilD)))) (tSlot 5))) (tSlot 12) [12]) (tLstV (tNilD)))) (sDropD (tMethL rAppD (tSlot 9) (tConsD (tSlot 10) (tNilD)))) (sNextD)))
  (sSeqD (sAsgD (tLstR (tNilD)) (gNameD 11))
  (sSeqD (sForD (iAnyD (tSlot 9)) (gNameD 12) (sSeqD (sAsgD (tLstR (tNilD)) (gNameD 13))
  (sSeqD (sForD (iAnyD (tBin (rIxW w) (tSlot 1) (tSlot 12))) (gNameD 14) (sSeqD (sAsgD (tLcV (iRng1D (tConsD (tCallD (rLenW w) (tConsD (tSlot 9) (tNilD))) (tNilD))) (gNameD 16) (tAndD (tTst (tBin (rInW w false) (tSlot 14) (tSlot 3))) (tTst (tBin (rInW w true) (tTupD (tConsD (tBin (rIxW w) (tSlot 9) (tSlot 16)) (tConsD (tSlot 14) (tNilD)))) (tSlot 5)))) (tSlot 16) [16]) (gNameD 15))
  (sDropD (tMethL rAppD (tSlot 13) (tConsD (tIfD (tTst (tBin rNeD (tSlot 15) (tLstV (tNilD)))) (tBin (rIxW w) (tSlot 15) (tCD (.int 0))) (tCD .non)) (tNilD))))))
  (sDropD (tMethL rAppD (tSlot 11) (tConsD (tCallD rTupleD (tConsD (tSlot 13) (tNilD))) (tNilD)))))))
  (sRetD (tTupD (tConsD (tSlot 0) (tConsD (tCallD rTupleD (tConsD (tSlot 11) (tNilD))) (tConsD (tCallD rTupleD (tConsD (tLcV (iAnyD (tSlot 9)) (gNameD 12) (tYesD) (tCallD rBoolD (tConsD (tBin (rIxW w) (tSlot 2) (tSlot 12)) (tNilD))) [12]) (tNilD))) (tNilD))))))))))))))
theorem dv__law_least (T : Txt K mg) (hB : SysB base) {k : Nat} {f : Addr} {cdv : Value} {A : Around} {outer : List Env} {s : Shared} {H : Hp} (hr : RoomG k (A.deeper (envOfC "_law_least" (defScope s__law_least) s.heap.objs.size f cdv))) {sp__law_open : SpD} (h__law_open : Has P w K mg base k "_law_open" ["_law_rows", "_law_ends"] sp__law_open) {sp__law_met : SpD} (h__law_met : Has P w K mg base k "_law_met" ["_law_rows"] sp__law_met) {sp__law_are_apart : SpD} (h__law_are_apart : Has P w K mg base k "_law_are_apart" ["_law_rows", "_law_ends", "_law_alive", "_law_held", "_law_pair"] sp__law_are_apart) :
    DSs (cxOf CX0 P w K mg base N__law_least "_law_least" (defScope s__law_least) f cdv A outer s H E0).nox (defBody s__law_least) (rd__law_least w sp__law_open sp__law_met sp__law_are_apart) :=
  dss_cons (ds_set 3 sc__law_least.nd (de_call h__law_open hr (da_cons (de_slot 1 (pv 1)) (da_cons (de_slot 2 (pv 2)) (da_nil)))))
    (dss_cons (ds_if (dt_notInW hr (de_int) (de_slot 3 (pv 3))) (dss_one (ds_ret (de_tup (da_cons (de_slot 0 (pv 0)) (da_cons (de_tup (da_cons (de_mul (de_tup (da_cons (de_non) (da_nil))) (de_slot 0 (pv 0))) (da_nil))) (da_cons (de_tup (da_cons (de_bl) (da_nil))) (da_nil))))))) (dss_nil))
    (dss_cons (ds_setLcV 4 (own := [("_law_state", 10)]) sc__law_least.nd (di_any (de_call h__law_met hr (da_cons (de_slot 1 (pv 1)) (da_nil)))) (blkOk_by (own := [("_law_state", 10)]) (N := N__law_least) (sc := defScope s__law_least) (by decide +kernel)) (fun _ _ _ _ _ => dgw_name 10 (by decide) (pg_name (i := 10) sc__law_least.nd rfl (Or.inl rfl))) (fun _ _ _ _ _ => dts_one (dt_inW hr (de_slot 10 (pv 10)) (de_slot 3 (pv 3)))) (fun _ _ _ _ _ => de_slot 10 (pv 10)))
    (dss_cons (ds_asg (de_tup (da_cons (de_dicW) (da_cons (de_neg (de_int)) (da_nil)))) (dg_tup rfl (dgs_cons (dg_name 5 (pg_name (i := 5) sc__law_least.nd rfl (Or.inr rfl))) (dgs_cons (dg_name 6 (pg_name (i := 6) sc__law_least.nd rfl (Or.inl rfl))) (dgs_nil)))))
    (dss_cons (ds_while PassesOwn.never (dt_ne hr hB (de_callB call_lenW T.b_len bt_len (da_cons (de_slot 5 (pv 5)) (da_nil))) (de_slot 6 (pv 6))) (dss_cons (ds_set 6 sc__law_least.nd (de_callB call_lenW T.b_len bt_len (da_cons (de_slot 5 (pv 5)) (da_nil))))
    (dss_one (ds_for PassesOwn.never (di_any (de_slot 4 (pv 4))) (dg_name 7 (pg_name (i := 7) sc__law_least.nd rfl (Or.inl rfl))) (dss_one (ds_for PassesOwn.never (di_any (de_slot 4 (pv 4))) (dg_name 8 (pg_name (i := 8) sc__law_least.nd rfl (Or.inl rfl))) (dss_one (ds_if (dt_w (dw_and (dt_notInW hr (de_tup (da_cons (de_slot 7 (pv 7)) (da_cons (de_slot 8 (pv 8)) (da_nil)))) (de_slot 5 (pv 5))) (dw_and1 (dt_val (de_call h__law_are_apart hr (da_cons (de_slot 1 (pv 1)) (da_cons (de_slot 2 (pv 2)) (da_cons (de_slot 3 (pv 3)) (da_cons (de_slot 5 (pv 5)) (da_cons (de_tup (da_cons (de_slot 7 (pv 7)) (da_cons (de_slot 8 (pv 8)) (da_nil)))) (da_nil))))))))))) (dss_one (ds_asg (de_bl) (dg_subW hr (de_slot 5 (pv 5)) (de_tup (da_cons (de_slot 7 (pv 7)) (da_cons (de_slot 8 (pv 8)) (da_nil))))))) (dss_nil)))))))))
    (dss_cons (ds_set 9 sc__law_least.nd (de_lstR (da_nil)))
    (dss_cons (ds_for PassesOwn.never (di_any (de_slot 4 (pv 4))) (dg_name 10 (pg_name (i := 10) sc__law_least.nd rfl (Or.inr rfl))) (dss_one (ds_if (dt_eq hr hB (de_lcV (own := [("_law_head", 12)]) sc__law_least.nd (di_any (de_slot 9 (pv 9))) (blkOk_by (own := [("_law_head", 12)]) (N := N__law_least) (sc := defScope s__law_least) (by decide +kernel)) (fun _ _ _ _ _ => dgw_name 12 (by decide) (pg_name (i := 12) sc__law_least.nd rfl (Or.inl rfl))) (fun _ _ _ _ _ => dts_one (dt_notInW hr (de_tup (da_cons (de_slot 12 (pv 12)) (da_cons (de_slot 10 (pv 10)) (da_nil)))) (de_slot 5 (pv 5)))) (fun _ _ _ _ _ => de_slot 12 (pv 12))) (de_lstV (da_nil))) (dss_one (ds_expr (de_append (de_slot 9 (pv 9)) (da_cons (de_slot 10 (pv 10)) (da_nil))))) (dss_nil))))
    (dss_cons (ds_set 11 sc__law_least.nd (de_lstR (da_nil)))
    (dss_cons (ds_for PassesOwn.never (di_any (de_slot 9 (pv 9))) (dg_name 12 (pg_name (i := 12) sc__law_least.nd rfl (Or.inl rfl))) (dss_cons (ds_set 13 sc__law_least.nd (de_lstR (da_nil)))
    (dss_cons (ds_for PassesOwn.never (di_any (de_ixW hr (de_slot 1 (pv 1)) (de_slot 12 (pv 12)))) (dg_name 14 (pg_name (i := 14) sc__law_least.nd rfl (Or.inr rfl))) (dss_cons (ds_setLcV 15 (own := [("_law_at", 16)]) sc__law_least.nd (di_range1 T.b_range (da_cons (de_callB call_lenW T.b_len bt_len (da_cons (de_slot 9 (pv 9)) (da_nil))) (da_nil))) (blkOk_by (own := [("_law_at", 16)]) (N := N__law_least) (sc := defScope s__law_least) (by decide +kernel)) (fun _ _ _ _ _ => dgw_name 16 (by decide) (pg_name (i := 16) sc__law_least.nd rfl (Or.inl rfl))) (fun _ _ _ _ _ => dts_one (dt_w (dw_and (dt_inW hr (de_slot 14 (pv 14)) (de_slot 3 (pv 3))) (dw_and1 (dt_notInW hr (de_tup (da_cons (de_ixW hr (de_slot 9 (pv 9)) (de_slot 16 (pv 16))) (da_cons (de_slot 14 (pv 14)) (da_nil)))) (de_slot 5 (pv 5))))))) (fun _ _ _ _ _ => de_slot 16 (pv 16)))
    (dss_one (ds_expr (de_append (de_slot 13 (pv 13)) (da_cons (de_if (dt_ne hr hB (de_slot 15 (pv 15)) (de_lstV (da_nil))) (de_ixW hr (de_slot 15 (pv 15)) (de_int)) (de_non)) (da_nil)))))))
    (dss_one (ds_expr (de_append (de_slot 11 (pv 11)) (da_cons (de_callTy call_tupleRD T.b_tuple bt_tuple (da_cons (de_slot 13 (pv 13)) (da_nil))) (da_nil))))))))
    (dss_one (ds_ret (de_tup (da_cons (de_slot 0 (pv 0)) (da_cons (de_callTy call_tupleRD T.b_tuple bt_tuple (da_cons (de_slot 11 (pv 11)) (da_nil))) (da_cons (de_callTy call_tupleRD T.b_tuple bt_tuple (da_cons (de_lcV (own := [("_law_head", 12)]) sc__law_least.nd (di_any (de_slot 9 (pv 9))) (blkOk_by (own := [("_law_head", 12)]) (N := N__law_least) (sc := defScope s__law_least) (by decide +kernel)) (fun _ _ _ _ _ => dgw_name 12 (by decide) (pg_name (i := 12) sc__law_least.nd rfl (Or.inl rfl))) (fun _ _ _ _ _ => dts_nil) (fun _ _ _ _ _ => de_callTy call_boolRD T.b_bool bt_bool (da_cons (de_ixW hr (de_slot 2 (pv 2)) (de_slot 12 (pv 12))) (da_nil)))) (da_nil))) (da_nil)))))))))))))))
theorem mk__law_least (D : DefOf K mg "_law_least" s__law_least) (T : Txt K mg) (hB : SysB base) {k : Nat} {sp__law_open : SpD} (h__law_open : Has P w K mg base k "_law_open" ["_law_rows", "_law_ends"] sp__law_open) {sp__law_met : SpD} (h__law_met : Has P w K mg base k "_law_met" ["_law_rows"] sp__law_met) {sp__law_are_apart : SpD} (h__law_are_apart : Has P w K mg base k "_law_are_apart" ["_law_rows", "_law_ends", "_law_alive", "_law_held", "_law_pair"] sp__law_are_apart) {sp : SpD} (len : ∀ ds S Q, sp ds S Q → ds.length = 3) (hq : ∀ ds S Qd, sp ds S Qd → rd__law_least w sp__law_open sp__law_met sp__law_are_apart { nx := fun _ S2 => fin Qd .non S2, rt := fin Qd, bk := fun _ _ => False, ct := fun _ _ => False } (pad 17 ds) S) : Has P w K mg base (k + 1) "_law_least" ["_law_letters", "_law_rows", "_law_ends"] sp :=
  let ⟨f, fd, F, hm⟩ := D.ex
  .of F hm (F.binds fun _ _ _ _ _ _ us hl => match us, hl with | [_, _, _], _ => rfl) (FnD.of F sc__law_least _ len (fun cdv A outer s H hr => dv__law_least T hB hr h__law_open h__law_met h__law_are_apart) hq)
abbrev s__law_are_apart : Stmt := top 18
abbrev N__law_are_apart : List Str := ["_law_rows", "_law_ends", "_law_alive", "_law_held", "_law_pair", "_law_one_here", "_law_other", "_law_first", "_law_second"]
theorem sc__law_are_apart : FnScope N__law_are_apart ["_law_rows", "_law_ends", "_law_alive", "_law_held", "_law_pair"] (defScope s__law_are_apart) := ⟨rfl, rfl, rfl, by decide +kernel, rfl, by decide +kernel, by decide +kernel⟩
def rd__law_are_apart (w : World) : TSD :=
  sSeqD (sAsgD (tSlot 4) (gTupD 2 (gConsD (gNameD 5) (gConsD (gNameD 6) (gNilD)))))
  (sSeqD (sIfD (tTst (tBin rNeD (tBin (rIxW w) (tSlot 1) (tSlot 5)) (tBin (rIxW w) (tSlot 1) (tSlot 6)))) (sRetD (tCD (.bl true))) (sNextD))
  (sSeqD (sForD (iZipD (tConsD (tBin (rIxW w) (tSlot 0) (tSlot 5)) (tConsD (tBin (rIxW w) (tSlot 0) (tSlot 6)) (tNilD)))) (gTupD 2 (gConsD (gNameD 7) (gConsD (gNameD 8) (gNilD)))) (sIfD (tOrD (tTst (tBin rNeD (tBin (rInW w false) (tSlot 7) (tSlot 2)) (tBin (rInW w false) (tSlot 8) (tSlot 2)))) (tAndD (tTst (tBin (rInW w false) (tSlot 7) (tSlot 2))) (tTst (tBin (rInW w false) (tTupD (tConsD (tSlot 7) (tConsD (tSlot 8) (tNilD)))) (tSlot 3))))) (sRetD (tCD (.bl true))) (sNextD)))
  (sRetD (tCD (.bl false)))))
theorem dv__law_are_apart (T : Txt K mg) (hB : SysB base) {k : Nat} {f : Addr} {cdv : Value} {A : Around} {outer : List Env} {s : Shared} {H : Hp} (hr : RoomG k (A.deeper (envOfC "_law_are_apart" (defScope s__law_are_apart) s.heap.objs.size f cdv))) :
    DSs (cxOf CX0 P w K mg base N__law_are_apart "_law_are_apart" (defScope s__law_are_apart) f cdv A outer s H E0).nox (defBody s__law_are_apart) (rd__law_are_apart w) :=
  dss_cons (ds_asg (de_slot 4 (pv 4)) (dg_tup rfl (dgs_cons (dg_name 5 (pg_name (i := 5) sc__law_are_apart.nd rfl (Or.inl rfl))) (dgs_cons (dg_name 6 (pg_name (i := 6) sc__law_are_apart.nd rfl (Or.inl rfl))) (dgs_nil)))))
    (dss_cons (ds_if (dt_ne hr hB (de_ixW hr (de_slot 1 (pv 1)) (de_slot 5 (pv 5))) (de_ixW hr (de_slot 1 (pv 1)) (de_slot 6 (pv 6)))) (dss_one (ds_ret (de_bl))) (dss_nil))
    (dss_cons (ds_for PassesOwn.never (di_zip T.b_zip (da_cons (de_ixW hr (de_slot 0 (pv 0)) (de_slot 5 (pv 5))) (da_cons (de_ixW hr (de_slot 0 (pv 0)) (de_slot 6 (pv 6))) (da_nil)))) (dg_tup rfl (dgs_cons (dg_name 7 (pg_name (i := 7) sc__law_are_apart.nd rfl (Or.inl rfl))) (dgs_cons (dg_name 8 (pg_name (i := 8) sc__law_are_apart.nd rfl (Or.inl rfl))) (dgs_nil)))) (dss_one (ds_if (dt_w (dw_or (dt_ne hr hB (de_inW hr (de_slot 7 (pv 7)) (de_slot 2 (pv 2))) (de_inW hr (de_slot 8 (pv 8)) (de_slot 2 (pv 2)))) (dw_or1 (dt_w (dw_and (dt_inW hr (de_slot 7 (pv 7)) (de_slot 2 (pv 2))) (dw_and1 (dt_inW hr (de_tup (da_cons (de_slot 7 (pv 7)) (da_cons (de_slot 8 (pv 8)) (da_nil)))) (de_slot 3 (pv 3))))))))) (dss_one (ds_ret (de_bl))) (dss_nil))))
    (dss_one (ds_ret (de_bl)))))
theorem mk__law_are_apart (D : DefOf K mg "_law_are_apart" s__law_are_apart) (T : Txt K mg) (hB : SysB base) {k : Nat} {sp : SpD} (len : ∀ ds S Q, sp ds S Q → ds.length = 5) (hq : ∀ ds S Qd, sp ds S Qd → rd__law_are_apart w { nx := fun _ S2 => fin Qd .non S2, rt := fin Qd, bk := fun _ _ => False, ct := fun _ _ => False } (pad 9 ds) S) : Has P w K mg base (k + 1) "_law_are_apart" ["_law_rows", "_law_ends", "_law_alive", "_law_held", "_law_pair"] sp :=
  let ⟨f, fd, F, hm⟩ := D.ex
  .of F hm (F.binds fun _ _ _ _ _ _ us hl => match us, hl with | [_, _, _, _, _], _ => rfl) (FnD.of F sc__law_are_apart _ len (fun cdv A outer s H hr => dv__law_are_apart T hB hr) hq)
abbrev s__law_doubled : Stmt := top 19
abbrev N__law_doubled : List Str := ["_law_deck_here", "_law_machine_here", "_law_letters", "_law_rows", "_law_ends", "_law_many", "_law_found", "_law_row", "_law_item"]
theorem sc__law_doubled : FnScope N__law_doubled ["_law_deck_here", "_law_machine_here"] (defScope s__law_doubled) := ⟨rfl, rfl, rfl, by decide +kernel, rfl, by decide +kernel, by decide +kernel⟩
def rd__law_doubled (sp__law_draw : SpD) : TSD :=
  sSeqD (sAsgD (tSlot 1) (gTupD 3 (gConsD (gNameD 2) (gConsD (gNameD 3) (gConsD (gNameD 4) (gNilD))))))
  (sSeqD (sAsgD (tTupD (tConsD (tCallD rLenD (tConsD (tSlot 3) (tNilD))) (tConsD (tLstR (tNilD)) (tNilD)))) (gTupD 2 (gConsD (gNameD 5) (gConsD (gNameD 6) (gNilD)))))
  (sSeqD (sForD (iAnyD (tBin rAddD (tSlot 3) (tSlot 3))) (gNameD 7) (sDropD (tMethL rAppD (tSlot 6) (tConsD (tCallD rTupleD (tConsD (tLcV (iAnyD (tSlot 7)) (gNameD 8) (tYesD) (tIfD (tTst (tUnD rIsN (tSlot 8))) (tCD .non) (tBin rAddD (tSlot 8) (tBin rMulD (tSlot 5) (tCallD sp__law_draw (tConsD (tSlot 0) (tConsD (tCD (.int 2)) (tNilD))))))) [8]) (tNilD))) (tNilD)))))
  (sRetD (tTupD (tConsD (tSlot 2) (tConsD (tCallD rTupleD (tConsD (tSlot 6) (tNilD))) (tConsD (tBin rAddD (tSlot 4) (tSlot 4)) (tNilD))))))))
theorem dv__law_doubled (T : Txt K mg) (hB : SysB base) {k : Nat} {f : Addr} {cdv : Value} {A : Around} {outer : List Env} {s : Shared} {H : Hp} (hr : RoomG k (A.deeper (envOfC "_law_doubled" (defScope s__law_doubled) s.heap.objs.size f cdv))) {sp__law_draw : SpD} (h__law_draw : Has P w K mg base k "_law_draw" ["_law_deck_here", "_law_many"] sp__law_draw) :
    DSs (cxOf CX0 P w K mg base N__law_doubled "_law_doubled" (defScope s__law_doubled) f cdv A outer s H E0).nox (defBody s__law_doubled) (rd__law_doubled sp__law_draw) :=
  dss_cons (ds_asg (de_slot 1 (pv 1)) (dg_tup rfl (dgs_cons (dg_name 2 (pg_name (i := 2) sc__law_doubled.nd rfl (Or.inl rfl))) (dgs_cons (dg_name 3 (pg_name (i := 3) sc__law_doubled.nd rfl (Or.inl rfl))) (dgs_cons (dg_name 4 (pg_name (i := 4) sc__law_doubled.nd rfl (Or.inl rfl))) (dgs_nil))))))
    (dss_cons (ds_asg (de_tup (da_cons (de_callB call_lenRD T.b_len bt_len (da_cons (de_slot 3 (pv 3)) (da_nil))) (da_cons (de_lstR (da_nil)) (da_nil)))) (dg_tup rfl (dgs_cons (dg_name 5 (pg_name (i := 5) sc__law_doubled.nd rfl (Or.inr rfl))) (dgs_cons (dg_name 6 (pg_name (i := 6) sc__law_doubled.nd rfl (Or.inl rfl))) (dgs_nil)))))
    (dss_cons (ds_for PassesOwn.never (di_any (de_add (de_slot 3 (pv 3)) (de_slot 3 (pv 3)))) (dg_name 7 (pg_name (i := 7) sc__law_doubled.nd rfl (Or.inl rfl))) (dss_one (ds_expr (de_append (de_slot 6 (pv 6)) (da_cons (de_callTy call_tupleRD T.b_tuple bt_tuple (da_cons (de_lcV (own := [("_law_item", 8)]) sc__law_doubled.nd (di_any (de_slot 7 (pv 7))) (blkOk_by (own := [("_law_item", 8)]) (N := N__law_doubled) (sc := defScope s__law_doubled) (by decide +kernel)) (fun _ _ _ _ _ => dgw_name 8 (by decide) (pg_name (i := 8) sc__law_doubled.nd rfl (Or.inl rfl))) (fun _ _ _ _ _ => dts_nil) (fun _ _ _ _ _ => de_if (dt_isN (de_slot 8 (pv 8))) (de_non) (de_add (de_slot 8 (pv 8)) (de_mul (de_slot 5 (pv 5)) (de_call h__law_draw hr (da_cons (de_slot 0 (pv 0)) (da_cons (de_int) (da_nil)))))))) (da_nil))) (da_nil))))))
    (dss_one (ds_ret (de_tup (da_cons (de_slot 2 (pv 2)) (da_cons (de_callTy call_tupleRD T.b_tuple bt_tuple (da_cons (de_slot 6 (pv 6)) (da_nil))) (da_cons (de_add (de_slot 4 (pv 4)) (de_slot 4 (pv 4))) (da_nil)))))))))
theorem mk__law_doubled (D : DefOf K mg "_law_doubled" s__law_doubled) (T : Txt K mg) (hB : SysB base) {k : Nat} {sp__law_draw : SpD} (h__law_draw : Has P w K mg base k "_law_draw" ["_law_deck_here", "_law_many"] sp__law_draw) {sp : SpD} (len : ∀ ds S Q, sp ds S Q → ds.length = 2) (hq : ∀ ds S Qd, sp ds S Qd → rd__law_doubled sp__law_draw { nx := fun _ S2 => fin Qd .non S2, rt := fin Qd, bk := fun _ _ => False, ct := fun _ _ => False } (pad 9 ds) S) : Has P w K mg base (k + 1) "_law_doubled" ["_law_deck_here", "_law_machine_here"] sp :=
  let ⟨f, fd, F, hm⟩ := D.ex
  .of F hm (F.binds fun _ _ _ _ _ _ us hl => match us, hl with | [_, _], _ => rfl) (FnD.of F sc__law_doubled _ len (fun cdv A outer s H hr => dv__law_doubled T hB hr h__law_draw) hq)
abbrev s__law_more : Stmt := top 20
abbrev N__law_more : List Str := ["_law_deck_here", "_law_machine_here", "_law_letters", "_law_rows", "_law_ends", "_law_dead", "_law_found", "_law_row", "_law_item", "_law_at"]
theorem sc__law_more : FnScope N__law_more ["_law_deck_here", "_law_machine_here"] (defScope s__law_more) := ⟨rfl, rfl, rfl, by decide +kernel, rfl, by decide +kernel, by decide +kernel⟩
def rd__law_more (sp__law_one : SpD) (sp__law_draw : SpD) : TSD :=
  sSeqD (sAsgD (tSlot 1) (gTupD 3 (gConsD (gNameD 2) (gConsD (gNameD 3) (gConsD (gNameD 4) (gNilD))))))
  (sSeqD (sAsgD (tTupD (tConsD (tCallD rLenD (tConsD (tSlot 3) (tNilD))) (tConsD (tLstR (tNilD)) (tNilD)))) (gTupD 2 (gConsD (gNameD 5) (gConsD (gNameD 6) (gNilD)))))
  (sSeqD (sForD (iAnyD (tSlot 3)) (gNameD 7) (sDropD (tMethL rAppD (tSlot 6) (tConsD (tCallD rTupleD (tConsD (tLcV (iAnyD (tSlot 7)) (gNameD 8) (tYesD) (tIfD (tTst (tUnD rIsN (tSlot 8))) (tCallD sp__law_one (tConsD (tSlot 0) (tConsD (tLstV (tConsD (tCD .non) (tConsD (tSlot 5) (tNilD)))) (tNilD)))) (tSlot 8)) [8]) (tNilD))) (tNilD)))))
  (sSeqD (sDropD (tMethL rAppD (tSlot 6) (tConsD (tBin rMulD (tTupD (tConsD (tSlot 5) (tNilD))) (tSlot 2)) (tNilD))))
  (sSeqD (sDropD (tMethL rAppD (tSlot 6) (tConsD (tCallD rTupleD (tConsD (tLcV (iRng1D (tConsD (tSlot 2) (tNilD))) (gNameD 9) (tYesD) (tCallD sp__law_draw (tConsD (tSlot 0) (tConsD (tBin rAddD (tSlot 5) (tCD (.int 2))) (tNilD)))) [9]) (tNilD))) (tNilD))))
  (sRetD (tTupD (tConsD (tSlot 2) (tConsD (tCallD rTupleD (tConsD (tSlot 6) (tNilD))) (tConsD (tBin rAddD (tSlot 4) (tTupD (tConsD (tCD (.bl false)) (tConsD (tBin rEqD (tCallD sp__law_draw (tConsD (tSlot 0) (tConsD (tCD (.int 2)) (tNilD)))) (tCD (.int 0))) (tNilD))))) (tNilD))))))))))
theorem dv__law_more (T : Txt K mg) (hB : SysB base) {k : Nat} {f : Addr} {cdv : Value} {A : Around} {outer : List Env} {s : Shared} {H : Hp} (hr : RoomG k (A.deeper (envOfC "_law_more" (defScope s__law_more) s.heap.objs.size f cdv))) {sp__law_one : SpD} (h__law_one : Has P w K mg base k "_law_one" ["_law_deck_here", "_law_items"] sp__law_one) {sp__law_draw : SpD} (h__law_draw : Has P w K mg base k "_law_draw" ["_law_deck_here", "_law_many"] sp__law_draw) :
    DSs (cxOf CX0 P w K mg base N__law_more "_law_more" (defScope s__law_more) f cdv A outer s H E0).nox (defBody s__law_more) (rd__law_more sp__law_one sp__law_draw) :=
  dss_cons (ds_asg (de_slot 1 (pv 1)) (dg_tup rfl (dgs_cons (dg_name 2 (pg_name (i := 2) sc__law_more.nd rfl (Or.inl rfl))) (dgs_cons (dg_name 3 (pg_name (i := 3) sc__law_more.nd rfl (Or.inl rfl))) (dgs_cons (dg_name 4 (pg_name (i := 4) sc__law_more.nd rfl (Or.inl rfl))) (dgs_nil))))))
    (dss_cons (ds_asg (de_tup (da_cons (de_callB call_lenRD T.b_len bt_len (da_cons (de_slot 3 (pv 3)) (da_nil))) (da_cons (de_lstR (da_nil)) (da_nil)))) (dg_tup rfl (dgs_cons (dg_name 5 (pg_name (i := 5) sc__law_more.nd rfl (Or.inr rfl))) (dgs_cons (dg_name 6 (pg_name (i := 6) sc__law_more.nd rfl (Or.inl rfl))) (dgs_nil)))))
    (dss_cons (ds_for PassesOwn.never (di_any (de_slot 3 (pv 3))) (dg_name 7 (pg_name (i := 7) sc__law_more.nd rfl (Or.inl rfl))) (dss_one (ds_expr (de_append (de_slot 6 (pv 6)) (da_cons (de_callTy call_tupleRD T.b_tuple bt_tuple (da_cons (de_lcV (own := [("_law_item", 8)]) sc__law_more.nd (di_any (de_slot 7 (pv 7))) (blkOk_by (own := [("_law_item", 8)]) (N := N__law_more) (sc := defScope s__law_more) (by decide +kernel)) (fun _ _ _ _ _ => dgw_name 8 (by decide) (pg_name (i := 8) sc__law_more.nd rfl (Or.inl rfl))) (fun _ _ _ _ _ => dts_nil) (fun _ _ _ _ _ => de_if (dt_isN (de_slot 8 (pv 8))) (de_call h__law_one hr (da_cons (de_slot 0 (pv 0)) (da_cons (de_lstV (da_cons (de_non) (da_cons (de_slot 5 (pv 5)) (da_nil)))) (da_nil)))) (de_slot 8 (pv 8)))) (da_nil))) (da_nil))))))
    (dss_cons (ds_expr (de_append (de_slot 6 (pv 6)) (da_cons (de_mul (de_tup (da_cons (de_slot 5 (pv 5)) (da_nil))) (de_slot 2 (pv 2))) (da_nil))))
    (dss_cons (ds_expr (de_append (de_slot 6 (pv 6)) (da_cons (de_callTy call_tupleRD T.b_tuple bt_tuple (da_cons (de_lcV (own := [("_law_at", 9)]) sc__law_more.nd (di_range1 T.b_range (da_cons (de_slot 2 (pv 2)) (da_nil))) (blkOk_by (own := [("_law_at", 9)]) (N := N__law_more) (sc := defScope s__law_more) (by decide +kernel)) (fun _ _ _ _ _ => dgw_name 9 (by decide) (pg_name (i := 9) sc__law_more.nd rfl (Or.inl rfl))) (fun _ _ _ _ _ => dts_nil) (fun _ _ _ _ _ => de_call h__law_draw hr (da_cons (de_slot 0 (pv 0)) (da_cons (de_add (de_slot 5 (pv 5)) (de_int)) (da_nil))))) (da_nil))) (da_nil))))
    (dss_one (ds_ret (de_tup (da_cons (de_slot 2 (pv 2)) (da_cons (de_callTy call_tupleRD T.b_tuple bt_tuple (da_cons (de_slot 6 (pv 6)) (da_nil))) (da_cons (de_add (de_slot 4 (pv 4)) (de_tup (da_cons (de_bl) (da_cons (de_eq hr hB (de_call h__law_draw hr (da_cons (de_slot 0 (pv 0)) (da_cons (de_int) (da_nil)))) (de_int)) (da_nil))))) (da_nil)))))))))))
theorem mk__law_more (D : DefOf K mg "_law_more" s__law_more) (T : Txt K mg) (hB : SysB base) {k : Nat} {sp__law_one : SpD} (h__law_one : Has P w K mg base k "_law_one" ["_law_deck_here", "_law_items"] sp__law_one) {sp__law_draw : SpD} (h__law_draw : Has P w K mg base k "_law_draw" ["_law_deck_here", "_law_many"] sp__law_draw) {sp : SpD} (len : ∀ ds S Q, sp ds S Q → ds.length = 2) (hq : ∀ ds S Qd, sp ds S Qd → rd__law_more sp__law_one sp__law_draw { nx := fun _ S2 => fin Qd .non S2, rt := fin Qd, bk := fun _ _ => False, ct := fun _ _ => False } (pad 10 ds) S) : Has P w K mg base (k + 1) "_law_more" ["_law_deck_here", "_law_machine_here"] sp :=
  let ⟨f, fd, F, hm⟩ := D.ex
  .of F hm (F.binds fun _ _ _ _ _ _ us hl => match us, hl with | [_, _], _ => rfl) (FnD.of F sc__law_more _ len (fun cdv A outer s H hr => dv__law_more T hB hr h__law_one h__law_draw) hq)
abbrev s__law_mixed : Stmt := top 21
abbrev N__law_mixed : List Str := ["_law_deck_here", "_law_machine_here", "_law_letters", "_law_rows", "_law_ends", "_law_rest", "_law_order", "_law_turn", "_law_found", "_law_state", "_law_item"]
theorem sc__law_mixed : FnScope N__law_mixed ["_law_deck_here", "_law_machine_here"] (defScope s__law_mixed) := ⟨rfl, rfl, rfl, by decide +kernel, rfl, by decide +kernel, by decide +kernel⟩
def rd__law_mixed (sp__law_draw : SpD) : TSD :=
  sSeqD (sAsgD (tSlot 1) (gTupD 3 (gConsD (gNameD 2) (gConsD (gNameD 3) (gConsD (gNameD 4) (gNilD))))))
  (sSeqD (sAsgD (tTupD (tConsD (tListRng (tConsD (tCD (.int 1)) (tConsD (tCallD rLenD (tConsD (tSlot 3) (tNilD))) (tNilD)))) (tConsD (tLstR (tConsD (tCD (.int 0)) (tNilD))) (tNilD)))) (gTupD 2 (gConsD (gNameD 5) (gConsD (gNameD 6) (gNilD)))))
  (sSeqD (sForD (iRng1D (tConsD (tBin rSubD (tCallD rLenD (tConsD (tSlot 3) (tNilD))) (tCD (.int 1))) (tNilD))) (gNameD 7) (sDropD (tMethL rAppD (tSlot 6) (tConsD (tMethA rPopI (tSlot 5) (tConsD (tCallD sp__law_draw (tConsD (tSlot 0) (tConsD (tCallD rLenD (tConsD (tSlot 5) (tNilD))) (tNilD)))) (tNilD))) (tNilD)))))
  (sSeqD (sAsgD (tLstR (tNilD)) (gNameD 8))
  (sSeqD (sForD (iAnyD (tSlot 6)) (gNameD 9) (sDropD (tMethL rAppD (tSlot 8) (tConsD (tCallD rTupleD (tConsD (tLcV (iAnyD (tBin rIxX (tSlot 3) (tSlot 9))) (gNameD 10) (tYesD) (tIfD (tTst (tUnD rIsN (tSlot 10))) (tCD .non) (tMethA rLixD (tSlot 6) (tConsD (tSlot 10) (tNilD)))) [10]) (tNilD))) (tNilD)))))
  (sRetD (tTupD (tConsD (tSlot 2) (tConsD (tCallD rTupleD (tConsD (tSlot 8) (tNilD))) (tConsD (tCallD rTupleD (tConsD (tLcV (iAnyD (tSlot 6)) (gNameD 9) (tYesD) (tBin rIxX (tSlot 4) (tSlot 9)) [9]) (tNilD))) (tNilD))))))))))
theorem dv__law_mixed (T : Txt K mg) (hB : SysB base) {k : Nat} {f : Addr} {cdv : Value} {A : Around} {outer : List Env} {s : Shared} {H : Hp} (hr : RoomG k (A.deeper (envOfC "_law_mixed" (defScope s__law_mixed) s.heap.objs.size f cdv))) {sp__law_draw : SpD} (h__law_draw : Has P w K mg base k "_law_draw" ["_law_deck_here", "_law_many"] sp__law_draw) :
    DSs (cxOf CX0 P w K mg base N__law_mixed "_law_mixed" (defScope s__law_mixed) f cdv A outer s H E0).nox (defBody s__law_mixed) (rd__law_mixed sp__law_draw) :=
  dss_cons (ds_asg (de_slot 1 (pv 1)) (dg_tup rfl (dgs_cons (dg_name 2 (pg_name (i := 2) sc__law_mixed.nd rfl (Or.inl rfl))) (dgs_cons (dg_name 3 (pg_name (i := 3) sc__law_mixed.nd rfl (Or.inl rfl))) (dgs_cons (dg_name 4 (pg_name (i := 4) sc__law_mixed.nd rfl (Or.inr rfl))) (dgs_nil))))))
    (dss_cons (ds_asg (de_tup (da_cons (de_listRng rfl T.b_list T.b_range (da_cons (de_int) (da_cons (de_callB call_lenRD T.b_len bt_len (da_cons (de_slot 3 (pv 3)) (da_nil))) (da_nil)))) (da_cons (de_lstR (da_cons (de_int) (da_nil))) (da_nil)))) (dg_tup rfl (dgs_cons (dg_name 5 (pg_name (i := 5) sc__law_mixed.nd rfl (Or.inl rfl))) (dgs_cons (dg_name 6 (pg_name (i := 6) sc__law_mixed.nd rfl (Or.inr rfl))) (dgs_nil)))))
    (dss_cons (ds_for PassesOwn.never (di_range1 T.b_range (da_cons (de_sub (de_callB call_lenRD T.b_len bt_len (da_cons (de_slot 3 (pv 3)) (da_nil))) (de_int)) (da_nil))) (dg_name 7 (pg_name (i := 7) sc__law_mixed.nd rfl (Or.inl rfl))) (dss_one (ds_expr (de_append (de_slot 6 (pv 6)) (da_cons (de_popI (de_slot 5 (pv 5)) (da_cons (de_call h__law_draw hr (da_cons (de_slot 0 (pv 0)) (da_cons (de_callB call_lenRD T.b_len bt_len (da_cons (de_slot 5 (pv 5)) (da_nil))) (da_nil)))) (da_nil))) (da_nil))))))
    (dss_cons (ds_set 8 sc__law_mixed.nd (de_lstR (da_nil)))
    (dss_cons (ds_for PassesOwn.never (di_any (de_slot 6 (pv 6))) (dg_name 9 (pg_name (i := 9) sc__law_mixed.nd rfl (Or.inl rfl))) (dss_one (ds_expr (de_append (de_slot 8 (pv 8)) (da_cons (de_callTy call_tupleRD T.b_tuple bt_tuple (da_cons (de_lcV (own := [("_law_item", 10)]) sc__law_mixed.nd (di_any (de_ixX hr (de_slot 3 (pv 3)) (de_slot 9 (pv 9)))) (blkOk_by (own := [("_law_item", 10)]) (N := N__law_mixed) (sc := defScope s__law_mixed) (by decide +kernel)) (fun _ _ _ _ _ => dgw_name 10 (by decide) (pg_name (i := 10) sc__law_mixed.nd rfl (Or.inl rfl))) (fun _ _ _ _ _ => dts_nil) (fun _ _ _ _ _ => de_if (dt_isN (de_slot 10 (pv 10))) (de_non) (de_lindex (de_slot 6 (pv 6)) (da_cons (de_slot 10 (pv 10)) (da_nil))))) (da_nil))) (da_nil))))))
    (dss_one (ds_ret (de_tup (da_cons (de_slot 2 (pv 2)) (da_cons (de_callTy call_tupleRD T.b_tuple bt_tuple (da_cons (de_slot 8 (pv 8)) (da_nil))) (da_cons (de_callTy call_tupleRD T.b_tuple bt_tuple (da_cons (de_lcV (own := [("_law_state", 9)]) sc__law_mixed.nd (di_any (de_slot 6 (pv 6))) (blkOk_by (own := [("_law_state", 9)]) (N := N__law_mixed) (sc := defScope s__law_mixed) (by decide +kernel)) (fun _ _ _ _ _ => dgw_name 9 (by decide) (pg_name (i := 9) sc__law_mixed.nd rfl (Or.inl rfl))) (fun _ _ _ _ _ => dts_nil) (fun _ _ _ _ _ => de_ixX hr (de_slot 4 (pv 4)) (de_slot 9 (pv 9)))) (da_nil))) (da_nil)))))))))))
theorem mk__law_mixed (D : DefOf K mg "_law_mixed" s__law_mixed) (T : Txt K mg) (hB : SysB base) {k : Nat} {sp__law_draw : SpD} (h__law_draw : Has P w K mg base k "_law_draw" ["_law_deck_here", "_law_many"] sp__law_draw) {sp : SpD} (len : ∀ ds S Q, sp ds S Q → ds.length = 2) (hq : ∀ ds S Qd, sp ds S Qd → rd__law_mixed sp__law_draw { nx := fun _ S2 => fin Qd .non S2, rt := fin Qd, bk := fun _ _ => False, ct := fun _ _ => False } (pad 11 ds) S) : Has P w K mg base (k + 1) "_law_mixed" ["_law_deck_here", "_law_machine_here"] sp :=
  let ⟨f, fd, F, hm⟩ := D.ex
  .of F hm (F.binds fun _ _ _ _ _ _ us hl => match us, hl with | [_, _], _ => rfl) (FnD.of F sc__law_mixed _ len (fun cdv A outer s H hr => dv__law_mixed T hB hr h__law_draw) hq)
abbrev s__law_long : Stmt := top 22
abbrev N__law_long : List Str := ["_law_many", "_law_is_ring", "_law_rows", "_law_state"]
theorem sc__law_long : FnScope N__law_long ["_law_many", "_law_is_ring"] (defScope s__law_long) := ⟨rfl, rfl, rfl, by decide +kernel, rfl, by decide +kernel, by decide +kernel⟩
def rd__law_long : TSD :=
  sSeqD (sAsgD (tBin rAddD (tLcV (iRng1D (tConsD (tBin rSubD (tSlot 0) (tCD (.int 1))) (tNilD))) (gNameD 3) (tYesD) (tTupD (tConsD (tBin rAddD (tSlot 3) (tCD (.int 1))) (tNilD))) [3]) (tLstV (tConsD (tTupD (tConsD (tIfD (tTst (tSlot 1)) (tCD (.int 0)) (tCD .non)) (tNilD))) (tNilD)))) (gNameD 2))
  (sRetD (tTupD (tConsD (tCD (.int 1)) (tConsD (tCallD rTupleD (tConsD (tSlot 2) (tNilD))) (tConsD (tBin rAddD (tBin rMulD (tTupD (tConsD (tCD (.bl false)) (tNilD))) (tBin rSubD (tSlot 0) (tCD (.int 1)))) (tTupD (tConsD (tCD (.bl true)) (tNilD)))) (tNilD))))))
theorem dv__law_long (T : Txt K mg) (hB : SysB base) {k : Nat} {f : Addr} {cdv : Value} {A : Around} {outer : List Env} {s : Shared} {H : Hp} (hr : RoomG k (A.deeper (envOfC "_law_long" (defScope s__law_long) s.heap.objs.size f cdv))) :
    DSs (cxOf CX0 P w K mg base N__law_long "_law_long" (defScope s__law_long) f cdv A outer s H E0).nox (defBody s__law_long) (rd__law_long) :=
  dss_cons (ds_set 2 sc__law_long.nd (de_add (de_lcV (own := [("_law_state", 3)]) sc__law_long.nd (di_range1 T.b_range (da_cons (de_sub (de_slot 0 (pv 0)) (de_int)) (da_nil))) (blkOk_by (own := [("_law_state", 3)]) (N := N__law_long) (sc := defScope s__law_long) (by decide +kernel)) (fun _ _ _ _ _ => dgw_name 3 (by decide) (pg_name (i := 3) sc__law_long.nd rfl (Or.inl rfl))) (fun _ _ _ _ _ => dts_nil) (fun _ _ _ _ _ => de_tup (da_cons (de_add (de_slot 3 (pv 3)) (de_int)) (da_nil)))) (de_lstV (da_cons (de_tup (da_cons (de_if (dt_val (de_slot 1 (pv 1))) (de_int) (de_non)) (da_nil))) (da_nil)))))
    (dss_one (ds_ret (de_tup (da_cons (de_int) (da_cons (de_callTy call_tupleRD T.b_tuple bt_tuple (da_cons (de_slot 2 (pv 2)) (da_nil))) (da_cons (de_add (de_mul (de_tup (da_cons (de_bl) (da_nil))) (de_sub (de_slot 0 (pv 0)) (de_int))) (de_tup (da_cons (de_bl) (da_nil)))) (da_nil)))))))
theorem mk__law_long (D : DefOf K mg "_law_long" s__law_long) (T : Txt K mg) (hB : SysB base) {k : Nat} {sp : SpD} (len : ∀ ds S Q, sp ds S Q → ds.length = 2) (hq : ∀ ds S Qd, sp ds S Qd → rd__law_long { nx := fun _ S2 => fin Qd .non S2, rt := fin Qd, bk := fun _ _ => False, ct := fun _ _ => False } (pad 4 ds) S) : Has P w K mg base (k + 1) "_law_long" ["_law_many", "_law_is_ring"] sp :=
  let ⟨f, fd, F, hm⟩ := D.ex
  .of F hm (F.binds fun _ _ _ _ _ _ us hl => match us, hl with | [_, _], _ => rfl) (FnD.of F sc__law_long _ len (fun cdv A outer s H hr => dv__law_long T hB hr) hq)
abbrev s__law_long_right : Stmt := top 23
abbrev N__law_long_right : List Str := ["_law_deck_here", "_law_many", "_law_row", "_law_ring"]
theorem sc__law_long_right : FnScope N__law_long_right ["_law_deck_here"] (defScope s__law_long_right) := ⟨rfl, rfl, rfl, by decide +kernel, rfl, by decide +kernel, by decide +kernel⟩
def rd__law_long_right (sp__law_one : SpD) (sp__law_draw : SpD) (sp__law_long : SpD) (sp_smallest : SpD) (sp__law_doubled : SpD) : TSD :=
  sSeqD (sAsgD (tCallD sp__law_one (tConsD (tSlot 0) (tConsD (tLstV (tConsD (tCD (.int 200)) (tConsD (tCD (.int 199)) (tConsD (tBin rAddD (tCD (.int 2)) (tCallD sp__law_draw (tConsD (tSlot 0) (tConsD (tCD (.int 199)) (tNilD))))) (tNilD))))) (tNilD)))) (gNameD 1))
  (sSeqD (sPar2 2 3 (tConsD (tCallD sp__law_long (tConsD (tSlot 1) (tConsD (tCD (.bl false)) (tNilD)))) (tConsD (tCallD sp__law_long (tConsD (tSlot 1) (tConsD (tCD (.bl true)) (tNilD)))) (tNilD))))
  (sSeqD (sIfD (tTst (tBin rNeD (tCallD rReprD (tConsD (tLstV (tConsD (tCallD sp_smallest (tConsD (tCallD sp__law_doubled (tConsD (tSlot 0) (tConsD (tSlot 2) (tNilD)))) (tNilD))) (tConsD (tCallD sp_smallest (tConsD (tSlot 2) (tNilD))) (tNilD)))) (tNilD))) (tCallD rReprD (tConsD (tLstV (tConsD (tSlot 2) (tConsD (tSlot 2) (tNilD)))) (tNilD))))) (sRetD (tCD (.bl false))) (sNextD))
  (sRetD (tBin rEqD (tCallD rReprD (tConsD (tCallD sp_smallest (tConsD (tCallD sp__law_doubled (tConsD (tSlot 0) (tConsD (tSlot 3) (tNilD)))) (tNilD))) (tNilD))) (tCallD rReprD (tConsD (tSlot 3) (tNilD)))))))
theorem dv__law_long_right (T : Txt K mg) (hB : SysB base) {k : Nat} {f : Addr} {cdv : Value} {A : Around} {outer : List Env} {s : Shared} {H : Hp} (hr : RoomG k (A.deeper (envOfC "_law_long_right" (defScope s__law_long_right) s.heap.objs.size f cdv))) {sp__law_one : SpD} (h__law_one : Has P w K mg base k "_law_one" ["_law_deck_here", "_law_items"] sp__law_one) {sp__law_draw : SpD} (h__law_draw : Has P w K mg base k "_law_draw" ["_law_deck_here", "_law_many"] sp__law_draw) {sp__law_long : SpD} (h__law_long : Has P w K mg base k "_law_long" ["_law_many", "_law_is_ring"] sp__law_long) {sp_smallest : SpD} (h_smallest : Has P w K mg base k "smallest" ["machine"] sp_smallest) {sp__law_doubled : SpD} (h__law_doubled : Has P w K mg base k "_law_doubled" ["_law_deck_here", "_law_machine_here"] sp__law_doubled) :
    DSs (cxOf CX0 P w K mg base N__law_long_right "_law_long_right" (defScope s__law_long_right) f cdv A outer s H E0).nox (defBody s__law_long_right) (rd__law_long_right sp__law_one sp__law_draw sp__law_long sp_smallest sp__law_doubled) :=
  dss_cons (ds_set 1 sc__law_long_right.nd (de_call h__law_one hr (da_cons (de_slot 0 (pv 0)) (da_cons (de_lstV (da_cons (de_int) (da_cons (de_int) (da_cons (de_add (de_int) (de_call h__law_draw hr (da_cons (de_slot 0 (pv 0)) (da_cons (de_int) (da_nil))))) (da_nil))))) (da_nil)))))
    (dss_cons (ds_par 2 3 sc__law_long_right.nd (da_cons (de_call h__law_long hr (da_cons (de_slot 1 (pv 1)) (da_cons (de_bl) (da_nil)))) (da_cons (de_call h__law_long hr (da_cons (de_slot 1 (pv 1)) (da_cons (de_bl) (da_nil)))) (da_nil))))
    (dss_cons (ds_if (dt_ne hr hB (de_callB (call_reprD _ hr hB) T.b_repr bt_repr (da_cons (de_lstV (da_cons (de_call h_smallest hr (da_cons (de_call h__law_doubled hr (da_cons (de_slot 0 (pv 0)) (da_cons (de_slot 2 (pv 2)) (da_nil)))) (da_nil))) (da_cons (de_call h_smallest hr (da_cons (de_slot 2 (pv 2)) (da_nil))) (da_nil)))) (da_nil))) (de_callB (call_reprD _ hr hB) T.b_repr bt_repr (da_cons (de_lstV (da_cons (de_slot 2 (pv 2)) (da_cons (de_slot 2 (pv 2)) (da_nil)))) (da_nil)))) (dss_one (ds_ret (de_bl))) (dss_nil))
    (dss_one (ds_ret (de_eq hr hB (de_callB (call_reprD _ hr hB) T.b_repr bt_repr (da_cons (de_call h_smallest hr (da_cons (de_call h__law_doubled hr (da_cons (de_slot 0 (pv 0)) (da_cons (de_slot 3 (pv 3)) (da_nil)))) (da_nil))) (da_nil))) (de_callB (call_reprD _ hr hB) T.b_repr bt_repr (da_cons (de_slot 3 (pv 3)) (da_nil))))))))
theorem mk__law_long_right (D : DefOf K mg "_law_long_right" s__law_long_right) (T : Txt K mg) (hB : SysB base) {k : Nat} {sp__law_one : SpD} (h__law_one : Has P w K mg base k "_law_one" ["_law_deck_here", "_law_items"] sp__law_one) {sp__law_draw : SpD} (h__law_draw : Has P w K mg base k "_law_draw" ["_law_deck_here", "_law_many"] sp__law_draw) {sp__law_long : SpD} (h__law_long : Has P w K mg base k "_law_long" ["_law_many", "_law_is_ring"] sp__law_long) {sp_smallest : SpD} (h_smallest : Has P w K mg base k "smallest" ["machine"] sp_smallest) {sp__law_doubled : SpD} (h__law_doubled : Has P w K mg base k "_law_doubled" ["_law_deck_here", "_law_machine_here"] sp__law_doubled) {sp : SpD} (len : ∀ ds S Q, sp ds S Q → ds.length = 1) (hq : ∀ ds S Qd, sp ds S Qd → rd__law_long_right sp__law_one sp__law_draw sp__law_long sp_smallest sp__law_doubled { nx := fun _ S2 => fin Qd .non S2, rt := fin Qd, bk := fun _ _ => False, ct := fun _ _ => False } (pad 4 ds) S) : Has P w K mg base (k + 1) "_law_long_right" ["_law_deck_here"] sp :=
  let ⟨f, fd, F, hm⟩ := D.ex
  .of F hm (F.binds fun _ _ _ _ _ _ us hl => match us, hl with | [_], _ => rfl) (FnD.of F sc__law_long_right _ len (fun cdv A outer s H hr => dv__law_long_right T hB hr h__law_one h__law_draw h__law_long h_smallest h__law_doubled) hq)
abbrev s_law : Stmt := top 24
abbrev N_law : List Str := ["_law_script", "_law_deck_here", "_law_turn", "_law_machine_here", "_law_due", "_law_others", "_law_own", "_law_shown", "_law_none"]
theorem sc_law : FnScope N_law ["_law_script"] (defScope s_law) := ⟨rfl, rfl, rfl, by decide +kernel, rfl, by decide +kernel, by decide +kernel⟩
def rd_law (sp__law_deck : SpD) (sp__law_long_right : SpD) (sp__law_machine : SpD) (sp__law_draw : SpD) (sp__law_least : SpD) (sp__law_doubled : SpD) (sp__law_more : SpD) (sp__law_mixed : SpD) (sp_smallest : SpD) : TSD :=
  sSeqD (sAsgD (tCallD sp__law_deck (tConsD (tSlot 0) (tNilD))) (gNameD 1))
  (sSeqD (sIfD (tNotD (tTst (tCallD sp__law_long_right (tConsD (tSlot 1) (tNilD))))) (sRetD (tCD (.bl false))) (sNextD))
  (sSeqD (sForD (iRng1D (tConsD (tCD (.int 8)) (tNilD))) (gNameD 2) (sSeqD (sAsgD (tCallD sp__law_machine (tConsD (tSlot 1) (tConsD (tBin rAddD (tCD (.int 1)) (tCallD sp__law_draw (tConsD (tSlot 1) (tConsD (tCD (.int 3)) (tNilD))))) (tConsD (tCD (.int 8)) (tNilD))))) (gNameD 3))
  (sSeqD (sAsgD (tCallD sp__law_least (tConsD (tBin rIxX (tSlot 3) (tCD (.int 0))) (tConsD (tBin rIxX (tSlot 3) (tCD (.int 1))) (tConsD (tBin rIxX (tSlot 3) (tCD (.int 2))) (tNilD))))) (gNameD 4))
  (sSeqD (sAsgD (tLstR (tConsD (tCallD sp__law_doubled (tConsD (tSlot 1) (tConsD (tSlot 3) (tNilD)))) (tConsD (tCallD sp__law_more (tConsD (tSlot 1) (tConsD (tSlot 3) (tNilD)))) (tConsD (tCallD sp__law_mixed (tConsD (tSlot 1) (tConsD (tSlot 3) (tNilD)))) (tNilD))))) (gNameD 5))
  (sSeqD (sDropD (tMethL rAppD (tSlot 5) (tConsD (tCallD sp__law_mixed (tConsD (tSlot 1) (tConsD (tCallD sp__law_more (tConsD (tSlot 1) (tConsD (tCallD sp__law_doubled (tConsD (tSlot 1) (tConsD (tSlot 3) (tNilD)))) (tNilD)))) (tNilD)))) (tNilD))))
  (sForD (iAnyD (tBin rAddD (tLstV (tConsD (tSlot 3) (tConsD (tSlot 4) (tNilD)))) (tSlot 5))) (gNameD 6) (sSeqD (sAsgD (tCallD rReprD (tConsD (tSlot 6) (tNilD))) (gNameD 7))
  (sIfD (tOrD (tTst (tBin rNeD (tCallD rReprD (tConsD (tLstV (tConsD (tCallD sp_smallest (tConsD (tSlot 6) (tNilD))) (tConsD (tCallD sp_smallest (tConsD (tSlot 6) (tNilD))) (tNilD)))) (tNilD))) (tCallD rReprD (tConsD (tLstV (tConsD (tSlot 4) (tConsD (tSlot 4) (tNilD)))) (tNilD))))) (tTst (tBin rNeD (tCallD rReprD (tConsD (tSlot 6) (tNilD))) (tSlot 7)))) (sRetD (tCD (.bl false))) (sNextD)))))))))
  (sSeqD (sAsgD (tTupD (tConsD (tCD (.int 2)) (tConsD (tTupD (tConsD (tTupD (tConsD (tCD .non) (tConsD (tCD .non) (tNilD)))) (tNilD))) (tConsD (tTupD (tConsD (tCD (.bl false)) (tNilD))) (tNilD))))) (gNameD 8))
  (sRetD (tAndV (tBin rEqD (tCallD sp_smallest (tConsD (tTupD (tConsD (tCD (.int 2)) (tConsD (tTupD (tConsD (tTupD (tConsD (tCD (.int 1)) (tConsD (tCD (.int 1)) (tNilD)))) (tConsD (tTupD (tConsD (tCD (.int 0)) (tConsD (tCD (.int 1)) (tNilD)))) (tNilD)))) (tConsD (tTupD (tConsD (tCD (.bl false)) (tConsD (tCD (.bl false)) (tNilD)))) (tNilD))))) (tNilD))) (tSlot 8)) (tBin rEqD (tCallD sp_smallest (tConsD (tSlot 8) (tNilD))) (tSlot 8)))))))
theorem dv_law (T : Txt K mg) (hB : SysB base) {k : Nat} {f : Addr} {cdv : Value} {A : Around} {outer : List Env} {s : Shared} {H : Hp} (hr : RoomG k (A.deeper (envOfC "law" (defScope s_law) s.heap.objs.size f cdv))) {sp__law_deck : SpD} (h__law_deck : Has P w K mg base k "_law_deck" ["_law_script"] sp__law_deck) {sp__law_long_right : SpD} (h__law_long_right : Has P w K mg base k "_law_long_right" ["_law_deck_here"] sp__law_long_right) {sp__law_machine : SpD} (h__law_machine : Has P w K mg base k "_law_machine" ["_law_deck_here", "_law_letters", "_law_most"] sp__law_machine) {sp__law_draw : SpD} (h__law_draw : Has P w K mg base k "_law_draw" ["_law_deck_here", "_law_many"] sp__law_draw) {sp__law_least : SpD} (h__law_least : Has P w K mg base k "_law_least" ["_law_letters", "_law_rows", "_law_ends"] sp__law_least) {sp__law_doubled : SpD} (h__law_doubled : Has P w K mg base k "_law_doubled" ["_law_deck_here", "_law_machine_here"] sp__law_doubled) {sp__law_more : SpD} (h__law_more : Has P w K mg base k "_law_more" ["_law_deck_here", "_law_machine_here"] sp__law_more) {sp__law_mixed : SpD} (h__law_mixed : Has P w K mg base k "_law_mixed" ["_law_deck_here", "_law_machine_here"] sp__law_mixed) {sp_smallest : SpD} (h_smallest : Has P w K mg base k "smallest" ["machine"] sp_smallest) :
    DSs (cxOf CX0 P w K mg base N_law "law" (defScope s_law) f cdv A outer s H E0).nox (defBody s_law) (rd_law sp__law_deck sp__law_long_right sp__law_machine sp__law_draw sp__law_least sp__law_doubled sp__law_more sp__law_mixed sp_smallest) :=
  dss_cons (ds_set 1 sc_law.nd (de_call h__law_deck hr (da_cons (de_slot 0 (pv 0)) (da_nil))))
    (dss_cons (ds_if (dt_not (dt_val (de_call h__law_long_right hr (da_cons (de_slot 1 (pv 1)) (da_nil))))) (dss_one (ds_ret (de_bl))) (dss_nil))
    (dss_cons (ds_for PassesOwn.never (di_range1 T.b_range (da_cons (de_int) (da_nil))) (dg_name 2 (pg_name (i := 2) sc_law.nd rfl (Or.inl rfl))) (dss_cons (ds_set 3 sc_law.nd (de_call h__law_machine hr (da_cons (de_slot 1 (pv 1)) (da_cons (de_add (de_int) (de_call h__law_draw hr (da_cons (de_slot 1 (pv 1)) (da_cons (de_int) (da_nil))))) (da_cons (de_int) (da_nil))))))
    (dss_cons (ds_set 4 sc_law.nd (de_call h__law_least hr (da_cons (de_ixX hr (de_slot 3 (pv 3)) (de_int)) (da_cons (de_ixX hr (de_slot 3 (pv 3)) (de_int)) (da_cons (de_ixX hr (de_slot 3 (pv 3)) (de_int)) (da_nil))))))
    (dss_cons (ds_set 5 sc_law.nd (de_lstR (da_cons (de_call h__law_doubled hr (da_cons (de_slot 1 (pv 1)) (da_cons (de_slot 3 (pv 3)) (da_nil)))) (da_cons (de_call h__law_more hr (da_cons (de_slot 1 (pv 1)) (da_cons (de_slot 3 (pv 3)) (da_nil)))) (da_cons (de_call h__law_mixed hr (da_cons (de_slot 1 (pv 1)) (da_cons (de_slot 3 (pv 3)) (da_nil)))) (da_nil))))))
    (dss_cons (ds_expr (de_append (de_slot 5 (pv 5)) (da_cons (de_call h__law_mixed hr (da_cons (de_slot 1 (pv 1)) (da_cons (de_call h__law_more hr (da_cons (de_slot 1 (pv 1)) (da_cons (de_call h__law_doubled hr (da_cons (de_slot 1 (pv 1)) (da_cons (de_slot 3 (pv 3)) (da_nil)))) (da_nil)))) (da_nil)))) (da_nil))))
    (dss_one (ds_for PassesOwn.never (di_any (de_add (de_lstV (da_cons (de_slot 3 (pv 3)) (da_cons (de_slot 4 (pv 4)) (da_nil)))) (de_slot 5 (pv 5)))) (dg_name 6 (pg_name (i := 6) sc_law.nd rfl (Or.inl rfl))) (dss_cons (ds_set 7 sc_law.nd (de_callB (call_reprD _ hr hB) T.b_repr bt_repr (da_cons (de_slot 6 (pv 6)) (da_nil))))
    (dss_one (ds_if (dt_w (dw_or (dt_ne hr hB (de_callB (call_reprD _ hr hB) T.b_repr bt_repr (da_cons (de_lstV (da_cons (de_call h_smallest hr (da_cons (de_slot 6 (pv 6)) (da_nil))) (da_cons (de_call h_smallest hr (da_cons (de_slot 6 (pv 6)) (da_nil))) (da_nil)))) (da_nil))) (de_callB (call_reprD _ hr hB) T.b_repr bt_repr (da_cons (de_lstV (da_cons (de_slot 4 (pv 4)) (da_cons (de_slot 4 (pv 4)) (da_nil)))) (da_nil)))) (dw_or1 (dt_ne hr hB (de_callB (call_reprD _ hr hB) T.b_repr bt_repr (da_cons (de_slot 6 (pv 6)) (da_nil))) (de_slot 7 (pv 7)))))) (dss_one (ds_ret (de_bl))) (dss_nil)))))))))))
    (dss_cons (ds_set 8 sc_law.nd (de_tup (da_cons (de_int) (da_cons (de_tup (da_cons (de_tup (da_cons (de_non) (da_cons (de_non) (da_nil)))) (da_nil))) (da_cons (de_tup (da_cons (de_bl) (da_nil))) (da_nil))))))
    (dss_one (ds_ret (de_and (de_eq hr hB (de_call h_smallest hr (da_cons (de_tup (da_cons (de_int) (da_cons (de_tup (da_cons (de_tup (da_cons (de_int) (da_cons (de_int) (da_nil)))) (da_cons (de_tup (da_cons (de_int) (da_cons (de_int) (da_nil)))) (da_nil)))) (da_cons (de_tup (da_cons (de_bl) (da_cons (de_bl) (da_nil)))) (da_nil))))) (da_nil))) (de_slot 8 (pv 8))) (de_one (de_eq hr hB (de_call h_smallest hr (da_cons (de_slot 8 (pv 8)) (da_nil))) (de_slot 8 (pv 8))))))))))
end
end K13
end
section
namespace PM
open PySem PySem.Spec PyProof.Rows L2 PD
def rd__law_one (sp__law_draw : SpD) : TSD :=
  sRetD (tBin rIxD (tSlot 1) (tCallD sp__law_draw (tConsD (tSlot 0) (tConsD (tCallD rLenD (tConsD (tSlot 1) (tNilD))) (tNilD)))))
def rd__law_machine (sp__law_draw : SpD) (sp__law_one : SpD) : TSD :=
  sSeqD (sAsgD (tTupD (tConsD (tBin rAddD (tCD (.int 1)) (tCallD sp__law_draw (tConsD (tSlot 0) (tConsD (tSlot 2) (tNilD))))) (tConsD (tCallD sp__law_draw (tConsD (tSlot 0) (tConsD (tCD (.int 5)) (tNilD)))) (tConsD (tLstR (tNilD)) (tNilD))))) (gTupD 3 (gConsD (gNameD 3) (gConsD (gNameD 4) (gConsD (gNameD 5) (gNilD))))))
  (sSeqD (sForD (iRng1D (tConsD (tSlot 3) (tNilD))) (gNameD 6) (sIfD (tTst (tBin rEqD (tSlot 4) (tCD (.int 0)))) (sDropD (tMethL rAppD (tSlot 5) (tConsD (tCallD rTupleD (tConsD (tLcV (iRng1D (tConsD (tSlot 1) (tNilD))) (gNameD 10) (tYesD) (tBin rModD (tCallD rIntD (tConsD (tBin rAddD (tSlot 6) (tCD (.int 1))) (tNilD))) (tSlot 3)) [10]) (tNilD))) (tNilD)))) (sIfD (tTst (tBin rEqD (tSlot 4) (tCD (.int 1)))) (sSeqD (sAsgD (tLstV (tConsD (tIfD (tTst (tBin (rCmpI fLt) (tBin rAddD (tSlot 6) (tCD (.int 1))) (tSlot 3))) (tBin rAddD (tSlot 6) (tCD (.int 1))) (tCD .non)) (tConsD (tSlot 6) (tConsD (tCD .non) (tNilD))))) (gNameD 7))
  (sDropD (tMethL rAppD (tSlot 5) (tConsD (tCallD rTupleD (tConsD (tLcV (iRng1D (tConsD (tSlot 1) (tNilD))) (gNameD 10) (tYesD) (tCallD sp__law_one (tConsD (tSlot 0) (tConsD (tSlot 7) (tNilD)))) [10]) (tNilD))) (tNilD))))) (sSeqD (sAsgD (tLcV (iRng1D (tConsD (tSlot 1) (tNilD))) (gNameD 10) (tYesD) (tCallD sp__law_draw (tConsD (tSlot 0) (tConsD (tSlot 3) (tNilD)))) [10]) (gNameD 8))
  (sDropD (tMethL rAppD (tSlot 5) (tConsD (tCallD rTupleD (tConsD (tLcV (iAnyD (tSlot 8)) (gNameD 11) (tYesD) (tIfD (tTst (tBin rEqD (tCallD sp__law_draw (tConsD (tSlot 0) (tConsD (tBin rAddD (tCD (.int 3)) (tSlot 4)) (tNilD)))) (tCD (.int 0)))) (tCD .non) (tSlot 11)) [11]) (tNilD))) (tNilD))))))))
  (sSeqD (sAsgD (tCallD sp__law_one (tConsD (tSlot 0) (tConsD (tLstV (tConsD (tCD (.int 2)) (tConsD (tCD (.int 2)) (tConsD (tCD (.int 3)) (tConsD (tCD (.int 5)) (tNilD)))))) (tNilD)))) (gNameD 9))
  (sRetD (tTupD (tConsD (tSlot 1) (tConsD (tCallD rTupleD (tConsD (tSlot 5) (tNilD))) (tConsD (tCallD rTupleD (tConsD (tLcV (iRng1D (tConsD (tSlot 3) (tNilD))) (gNameD 6) (tYesD) (tBin rEqD (tCallD sp__law_draw (tConsD (tSlot 0) (tConsD (tSlot 9) (tNilD)))) (tCD (.int 0))) [6]) (tNilD))) (tNilD))))))))
end PM
end
section
local macro_rules | `(tactic| walk_at "rdx") => `(tactic| simp only [PD.pad, PD.gt_z, PD.gt_s, PD.st_z, PD.st_s, PD.sNextD, PD.sSeqD, PD.sBreakD, PD.sContD, PD.sDropD, PD.sRetD, PD.sRetND, PD.sIfD, PD.sNeverD, PD.sAsgD, PD.sPar2, PD.sPar3, PD.gNameD, PD.gNilD, PD.gConsD, PD.gTupD, PD.gSubD, PD.tNilD, PD.tConsD, PD.tTupD, PD.tLstV, PD.tLstR, PD.tBin, PD.tTst, PD.tAndD, PD.tOrD, PD.tNotD, PD.tIfD, PD.tAndV, PD.tOrV, PD.tNotV, PD.tUnD, PD.rNeg, PD.tCallD, PD.tSlot, PD.tCD, PD.tChainD, PD.rIsN, PD.rNotN, PD.rIsiD, PD.isi_non, PD.isi_bl, PD.isi_int, PD.isi_str, PD.isi_tup, PD.isi_lst, PD.isi_dic, PD.Ty.name, PD.rCmpI, PD.fLt, PD.fLe, PD.fGt, PD.fGe, PD.rAddD, PD.rSubD, PD.rFdivD, PD.rModD, PD.rPowD, PD.rMulD, PD.rAddR, PD.rMulR, PD.asSeq, PD.asLst, PD.rLenD, PD.rTupleD, PD.rListV, PD.rListR, PD.rIntD, PD.rBoolD, PD.rAbsD, PD.rIxD, PD.oNone, PD.oSome, PD.tSlD, PD.rSlD, PD.tRevTD, PD.rEqD, PD.rNeD, PD.nrm_non, PD.nrm_bl, PD.nrm_int, PD.nrm_str, PD.nrm_tup, PD.nrm_lst, PD.nrm_dic, PD.nrm_ref, PD.iSeqD, PD.iRng1D, PD.iRng2D, PD.sForD, PD.tLcV, PD.tLcR, PD.tYesD, PD.wipeD, PD.tMethL, PD.rAppD, PD.isRefL, PD.tDicV, PD.keyOf, PD.asDic, PD.srcD, PD.iAnyD, PD.iZipD, PD.iEnumD, PD.tDcV, PD.tDicR, PD.gSubX, PD.rSetX, PD.rIxX, PD.rInD, PD.rInX, PD.rInY, PD.rSumD, PD.tRevLD, PD.tRevX, PD.rSixD, PD.rJoinD, PD.tMethS, PD.rLixD, PD.rPopD, PD.rExtD, PD.tMethA, PD.rSetD, PD.rReprD, PD.eqk_int, PD.eqd_int, PD.eqk_str, PD.eqd_str, PD.eqk_lst0, PD.eqd_lst0, PD.eqk_tup0, PD.eqd_tup0, PD.spFn, PD.spDraw, reduceIte, true_and, and_true, or_false, false_or, Bool.not_true, Bool.not_false, Bool.false_eq_true, List.length_cons, List.length_nil, List.set_cons_zero, List.set_cons_succ, PD.HD.set_same, PD.HD.tick_hp, PD.HD.tick_c, PD.HD.tick_dk, PD.HD.set_c, PD.HD.set_dk])
/-! PM1: machines: the model; is_of, the law's own walk. -/
namespace PM
open PySem PySem.Spec PyProof.Rows PD
/-- a machine -/
structure Mch where
  L : Nat
  rows : List (List (Option Nat))
  ends : List Bool
structure Mch.Ok (M : Mch) : Prop where
  l1 : 1 ≤ M.L
  l3 : M.L ≤ 3
  n1 : 1 ≤ M.rows.length
  n4 : M.rows.length ≤ 400
  en : M.ends.length = M.rows.length
  wd : ∀ r ∈ M.rows, r.length = M.L
  lt : ∀ r ∈ M.rows, ∀ c ∈ r, ∀ t, c = some t → t < M.rows.length
def encC : Option Nat → D
  | none => .non
  | some t => .int (t : Nat)
def encR (r : List (Option Nat)) : D := .tup (r.map encC)
def enc (M : Mch) : D := .tup [.int (M.L : Nat), .tup (M.rows.map encR), .tup (M.ends.map .bl)]
/-- one letter on -/
def Mch.nx (M : Mch) (s c : Nat) : Option Nat := ((M.rows[s]?).bind (·[c]?)).bind id
def Mch.nxo (M : Mch) (s : Option Nat) (c : Nat) : Option Nat := s.bind fun s => M.nx s c
def Mch.fin (M : Mch) (s : Nat) : Bool := (M.ends[s]?).getD false
def Mch.run (M : Mch) : Option Nat → List Nat → Option Nat
  | s, [] => s
  | s, c :: w => M.run (M.nxo s c) w
def Mch.acc (M : Mch) (w : List Nat) : Bool := match M.run (some 0) w with
  | some s => M.fin s
  | none => false
def wstr (w : List Nat) : Str := ⟨(w.map (97 + ·)).toArray⟩
theorem atI_map {α : Type} {xs : List α} {f : α → D} {s : Nat} {x : α} (h : xs[s]? = some x) : L2.atI (xs.map f) (s : Int) = some (f x) := by
  obtain ⟨h1, h2⟩ := List.getElem?_eq_some_iff.mp h
  rw [atI_get (by simpa using h1)]
  simp [h2]
theorem at3_1 {a b c : D} : L2.atI [a, b, c] 1 = some b := rfl
theorem at3_2 {a b c : D} : L2.atI [a, b, c] 2 = some c := rfl
theorem at3_0 {a b c : D} : L2.atI [a, b, c] 0 = some a := rfl
section
variable {M : Mch} (ok : M.Ok)
theorem Mch.row (ok : M.Ok) {s : Nat} (h : s < M.rows.length) : ∃ r, M.rows[s]? = some r ∧ r.length = M.L ∧ ∀ (c t : Nat), r[c]? = some (some t) → t < M.rows.length := by
  have hm := List.getElem_mem h
  exact ⟨M.rows[s], by simp [h], ok.wd _ hm, fun c t hc => ok.lt _ hm _ (List.mem_of_getElem? hc) t rfl⟩
theorem Mch.nx_lt (ok : M.Ok) {s c t : Nat} (h : M.nx s c = some t) : t < M.rows.length := by
  unfold Mch.nx at h
  cases e : M.rows[s]? with
  | none => rw [e] at h; cases h
  | some r =>
    rw [e] at h
    cases e2 : r[c]? with
    | none => simp [e2] at h
    | some x =>
      simp [e2] at h
      subst h
      exact ok.lt r (List.mem_of_getElem? e) _ (List.mem_of_getElem? e2) t rfl
end
theorem fin_at {M : Mch} (ok : M.Ok) {s : Nat} (h : s < M.rows.length) : M.ends[s]? = some (M.fin s) := by
  have h1 : s < M.ends.length := by rw [ok.en]; exact h
  unfold Mch.fin
  simp [h1]
theorem run_none (M : Mch) : ∀ w, M.run none w = none
  | [] => rfl
  | c :: w => run_none M w
/-! ### the law's own walk -/
theorem run_lt {M : Mch} (ok : M.Ok) : ∀ (w : List Nat) (s : Option Nat) (t : Nat), (∀ t, s = some t → t < M.rows.length) → M.run s w = some t → t < M.rows.length
  | [], s, t, h, e => h t e
  | c :: w, s, t, h, e => run_lt ok w (M.nxo s c) t (fun u hu => by
    cases s with
    | none => cases hu
    | some s => exact M.nx_lt ok hu) e
end PM
/-! PM2: accepted words by length and state; layers, counts. -/
namespace PM
open PySem PySem.Spec PyProof.Rows PD
/-- the moves of a state -/
def Mch.kids (M : Mch) (s : Nat) : List (Nat × Nat) := (List.range M.L).filterMap fun c => (M.nx s c).map fun t => (c, t)
/-- the accepted words of length k from s, in order -/
def Mch.A (M : Mch) : Nat → Nat → List (List Nat)
  | 0, s => if M.fin s = true then [[]] else []
  | k + 1, s => (M.kids s).flatMap fun p => (M.A k p.2).map (p.1 :: ·)
def Mch.opn (M : Mch) (k s : Nat) : Bool := !(M.A k s).isEmpty
/-! ### dict comprehensions over enumerate: the places kept -/
def keysD (p : Nat → Bool) (n : Nat) : List (D × D) := ((List.range n).filter p).map fun s => (.int (s : Nat), .bl true)
def layD (M : Mch) (k : Nat) : D := .dic (keysD (M.opn k) M.rows.length)
end PM
/-! PM3: the readings of open_layers, counts, count, moves_of. -/
namespace PM
open PySem PySem.Spec PyProof.Rows PD
end PM
/-! PM4: counts. -/
namespace PM
open PySem PySem.Spec PyProof.Rows PD
theorem del_hle {S S' : HD} {p : Addr} (u : Up 0 S S') (hp : S.hp p = none) : HLe S (S'.del p) := ⟨fun a o h => by
  have ne : a ≠ p := fun e => by rw [e, hp] at h; cases h
  simp only [HD.del, ne, if_false]
  exact u.hp a o h, u.c, u.dk.symm⟩
end PM
/-! PM5: the law's counts and words; moves_of. -/
namespace PM
open PySem PySem.Spec PyProof.Rows PD
/-! ### all words -/
def wD (w : List Nat) : D := .str (wstr w)
end PM
/-! PM6: the readings of the law's words and of moves_of. -/
namespace PM
open PySem PySem.Spec PyProof.Rows PD
/-- a list that stands: frozen, or tracked since the start -/
def Stands (S0 S : HD) (d : D) (xs : List D) : Prop := d = .lst xs ∨ ∃ p, d = .ref p ∧ S0.hp p = none ∧ S.hp p = some (.lst xs)
theorem Stands.set {S0 S : HD} {d : D} {xs : List D} {p : Addr} {o : OD} (h : Stands S0 S d xs) (hp : S.hp p = none) : Stands S0 (S.set p o) d xs :=
  h.imp id fun ⟨p', a, b, c⟩ => ⟨p', a, b, by rw [HD.set_ne fun e => by rw [e, hp] at c; cases c]; exact c⟩
theorem Stands.ret {S S' : HD} {d : D} {xs : List D} {Q : QD} (h : Stands S S' d xs) (u : Up 0 S S') (q : Q (.lst xs) S) : fin Q d S' := by
  rcases h with e | ⟨p, e, hp, h⟩
  · subst e
    exact fin.le ⟨u.hp, u.c, u.dk.symm⟩ q
  · subst e
    exact fin.frz h (del_hle u hp) q
end PM
/-! PM7: moves_of; loops by a measure. -/
namespace PM
open PySem PySem.Spec PyProof.Rows PD
/-! ### while, by a measure -/
theorem while_go {c : TTD} {tb : TSD} {E : EndsD} (I : Nat → SD → HD → Prop)
    (step : ∀ (n : Nat) (σ : SD) (S : HD) (N : SD → HD → Prop), I n σ S → (∀ m σ S, m < n → I m σ S → N σ S) → c σ S fun b S1 => if b = true then tb { nx := N, ct := N, bk := E.nx, rt := E.rt, xr := E.xr } σ S1 else E.nx σ S1)
    {n : Nat} {σ : SD} {S : HD} (h : I n σ S) : sWhileD c tb E σ S := by
  refine ⟨n + 1, ?_⟩
  have key : ∀ k n σ S, n < k → I n σ S → whileN c tb E k σ S := by
    intro k
    induction k with
    | zero => intro n σ S hn; exact absurd hn (Nat.not_lt_zero n)
    | succ k ih => intro n σ S hn hI; exact step n σ S _ hI fun m σ S hm h => ih m σ S (by omega) h
  exact key (n + 1) n σ S (Nat.lt_succ_self n) h
/-! ### the stack -/
def Mch.W (M : Mch) : Nat → Nat → Nat
  | 0, _ => 1
  | k + 1, s => 1 + (((M.kids s).filter fun p => M.opn k p.2).map fun p => M.W k p.2).sum
/-- what the stack still gives, the top first -/
def remW (M : Mch) (n : Nat) (st : List (List Nat × Nat)) : List (List Nat) := st.reverse.flatMap fun p => (M.A (n - p.1.length) p.2).map (p.1 ++ ·)
def weight (M : Mch) (n : Nat) (st : List (List Nat × Nat)) : Nat := (st.map fun p => M.W (n - p.1.length) p.2).sum
def entD (p : List Nat × Nat) : D := .tup [wD p.1, .int (p.2 : Nat)]
end PM
/-! PM8: told. -/
namespace PM
open PySem PySem.Spec PyProof.Rows PD
structure Inv (M : Mch) (n m : Nat) (pf pw : Addr) (S0 : HD) (k : Nat) (σ : SD) (S : HD) (found : List (List Nat)) (st : List (List Nat × Nat)) : Prop where
  sg : ∃ v6 v7 v8 v9, σ = [some (enc M), some (.int (n : Nat)), some (.int (m : Nat)), some (.lst ((List.range (n + 1)).map (layD M))), some (.ref pf), some (.ref pw), v6, v7, v8, v9, none, none, none]
  hf : S.hp pf = some (.lst (found.map wD))
  hw : S.hp pw = some (.lst (st.map entD))
  ne : pf ≠ pw
  n0 : S0.hp pf = none
  n1 : S0.hp pw = none
  up : Up 0 S0 S
  ok : ∀ p ∈ st, p.1.length ≤ n ∧ p.2 < M.rows.length ∧ M.opn (n - p.1.length) p.2 = true
  dp : ∀ (i : Nat) (p : List Nat × Nat), st[i]? = some p → i ≤ 2 * p.1.length
  rm : found ++ remW M n st = M.A n 0
  lm : found.length ≤ m
  wt : k = weight M n st
end PM
/-! PM9: told, its loop. -/
namespace PM
open PySem PySem.Spec PyProof.Rows PD
end PM
/-! PM10: the law's first words. -/
namespace PM
open PySem PySem.Spec PyProof.Rows PD
end PM
/-! PM11: the law's machines. -/
namespace PM
open PySem PySem.Spec PyProof.Rows PD
/-- a cell, a row of a machine with n states -/
def CellOk (n : Int) (c : D) : Prop := c = .non ∨ ∃ j, c = .int j ∧ 0 ≤ j ∧ j < n
def RowOk (L n : Int) (r : D) : Prop := ∃ cells, r = .tup cells ∧ (cells.length : Int) = L ∧ ∀ c ∈ cells, CellOk n c
def MachOk (L m : Int) (M : D) : Prop := ∃ rows ends, M = .tup [.int L, .tup rows, .tup ends] ∧ 1 ≤ rows.length ∧ (rows.length : Int) ≤ m ∧ ends.length = rows.length ∧ (∀ r ∈ rows, RowOk L rows.length r) ∧ ∀ e ∈ ends, ∃ b, e = .bl b
def spMach : SpD := fun ds S Q => ∃ L m : Int, ds = [.deck, .int L, .int m] ∧ 1 ≤ L ∧ L ≤ 3 ∧ 1 ≤ m ∧ m ≤ 8 ∧ S.c + 1000 ≤ 1000000000000 ∧ ∀ M, MachOk L m M → Q M (S.tick 1000)
theorem lc_len {f : D → Option D} {xs : List D} (h : ∀ d ∈ xs, (f d).isSome = true) : (xs.filterMap f).length = xs.length := by
  induction xs with
  | nil => rfl
  | cons x xs ih =>
    have h1 := h x List.mem_cons_self
    cases e : f x with
    | none => rw [e] at h1; cases h1
    | some y => rw [List.filterMap_cons, e]; simp [ih fun d hd => h d (List.mem_cons_of_mem _ hd)]
/-- cells by calls that draw once -/
theorem cells_lc {g : TGD} {tt : TTD} {te : TED} {σ : SD} {xs : List D} {Q : List D → HD → Prop} {n : Int} {S0 S : HD} {k : Nat} (hu : Up k S0 S) (hc : S0.c + 500 ≤ 1000000000000) (hk : k + xs.length ≤ 500)
    (step : ∀ (d : D) (acc : List D) (S' : HD) (N : List D → HD → Prop), d ∈ xs → S'.c < 1000000000000 → S'.hp = S.hp → (∀ y, CellOk n y → N (acc ++ [y]) (S'.tick 1)) → g d σ S' fun σ2 S2 => tt σ2 S2 fun b S3 => if b = true then te σ2 S3 (fun y S4 => N (acc ++ [y]) S4) else N acc S3)
    (q : ∀ acc S', acc.length = xs.length → (∀ c ∈ acc, CellOk n c) → Up (k + xs.length) S0 S' → S'.hp = S.hp → Q acc S') : lcD g tt te σ (fun _ => True) Q xs [] S := by
  refine lcD_go (fun i acc S' => acc.length = i ∧ (∀ c ∈ acc, CellOk n c) ∧ Up (k + i) S0 S' ∧ S'.hp = S.hp) ⟨rfl, fun c h => (by cases h), hu, rfl⟩ (fun i d acc S' N hi ⟨e1, e2, e3, e4⟩ kk => ⟨trivial, step d acc S' N (List.mem_of_getElem? hi) ?_ e4 fun y hy => kk _ _ ⟨by rw [List.length_append, e1]; rfl, fun c hc => ?_, e3.tick (k := 1), e4⟩⟩) fun acc S' ⟨e1, e2, e3, e4⟩ => ⟨trivial, q acc S' e1 e2 e3 e4⟩
  · have h1 := (List.getElem?_eq_some_iff.mp hi).1
    have h2 := e3.c
    omega
  · rcases List.mem_append.mp hc with h | h
    · exact e2 c h
    · rw [List.mem_singleton.mp h]; exact hy
theorem machD_ok (ds : List D) (S : HD) (Q : QD) (h : spMach ds S Q) : rd__law_machine spDraw spOne (ends Q) (pad 12 ds) S := by
  obtain ⟨L, m, rfl, l1, l2, m1, m2, hc, q⟩ := h
  unfold rd__law_machine
  generalize hT : sForD _ _ _ = T1
  generalize hU : (sSeqD _ (sRetD _) : TSD) = U1
  walk_at "rdx"
  refine ⟨⟨m1, by omega, by omega⟩, fun r1 r10 r11 => ⟨⟨by decide, by decide, by omega⟩, fun way w0 w1 => ⟨by decide, fun p hp => ⟨by decide, ?_⟩⟩⟩⟩
  have hn1 : 1 ≤ 1 + r1 := by omega
  have hn2 : 1 + r1 ≤ m := by omega
  generalize 1 + r1 = n at hn1 hn2
  have hu0 : Up 2 S (((S.tick 1).tick 1).set p (.lst [])) := ((((Up.refl S).tick).tick).new hp).mono (by decide)
  have hp0 : S.hp p = none := hp
  have hp1 : (((S.tick 1).tick 1).set p (.lst [])).hp p = some (.lst []) := HD.set_same
  generalize (((S.tick 1).tick 1).set p (.lst [])) = S1 at hu0 hp1
  subst hT
  generalize hB : sIfD _ _ _ = B1
  walk_at "rdx"
  refine ⟨⟨by omega, by omega⟩, loopD_go (fun i σ S' => ∃ rows v6 v7 v8, σ = [some .deck, some (.int L), some (.int m), some (.int n), some (.int way), some (.ref p), v6, v7, v8, none, none, none] ∧ rows.length = i ∧ (∀ r ∈ rows, RowOk L n r) ∧ S'.hp p = some (.lst rows) ∧ Up (2 + 6 * i) S S') ⟨[], none, none, none, rfl, rfl, fun r h => (by cases h), hp1, hu0⟩ (fun i d σ S' N hi ⟨rows, v6, v7, v8, e1, e2, e3, e4, e5⟩ k => ⟨trivial, ?_⟩) fun σ S' ⟨rows, v6, v7, v8, e1, e2, e3, e4, e5⟩ => ⟨trivial, ?_⟩⟩
  · obtain ⟨hi1, rfl⟩ := rngD_get hi
    subst e1 hB
    have hi2 : i < 8 := by omega
    have hcS : S'.c + 500 ≤ 1000000000000 := by have := e5.c; omega
    have done : ∀ cells S2 v7 v8, (cells.length : Int) = L → (∀ c ∈ cells, CellOk n c) → Up 6 S' S2 → S2.hp = S'.hp → rows.length < 16000000 ∧ N [some .deck, some (.int L), some (.int m), some (.int n), some (.int way), some (.ref p), some (.int (0 + (i : Int))), v7, v8, none, none, none] (S2.set p (.lst (rows ++ [.tup cells]))) := fun cells S2 v7 v8 h1 h2 h3 h4 => ⟨by omega, k _ _ ⟨rows ++ [.tup cells], _, v7, v8, rfl, by simp [e2], fun r hr => (by
      rcases List.mem_append.mp hr with h | h
      · exact e3 r h
      · rw [List.mem_singleton.mp h]; exact ⟨cells, rfl, h1, h2⟩), HD.set_same, ((e5.trans h3).mono (by omega)).set hp0⟩⟩
    generalize hg : gNameD 10 = g10
    generalize hg' : gNameD 11 = g11
    walk_at "rdx"
    subst hg hg'
    have hrl : (rngD 0 L.toNat).length = L.toNat := rngD_len _ _
    have hLn : ((L.toNat : Nat) : Int) = L := Int.toNat_of_nonneg (by omega)
    have hsz : (rngD 0 L.toNat).length ≤ sizeLine := by
      have : (sizeLine : Nat) = 16777216 := rfl
      omega
    have i0 : (0 : Int) + (i : Int) = i := Int.zero_add _
    by_cases hw : way = 0
    · simp only [hw, decide_true, if_true]
      subst hw
      refine ⟨⟨_, e4⟩, ⟨by omega, by omega⟩, hsz, lcD_pure (fun _ => some (.int ((0 + (i : Int) + 1) % n))) trivial _ _ (fun d hd Q1 Q0 h => ?_) ?_⟩
      · walk_at "rdx"
        exact ⟨by omega, h⟩
      · simp only [e4]
        refine done _ S' _ _ ?_ ?_ ((Up.refl _).mono (by decide)) rfl
        · rw [List.nil_append, lc_len (fun _ _ => rfl), hrl, hLn]
        · intro c hc
          obtain ⟨_, _, e⟩ := List.mem_filterMap.mp hc
          cases e
          exact .inr ⟨_, rfl, Int.emod_nonneg _ (by omega), Int.emod_lt_of_pos _ (by omega)⟩
    · simp only [hw, decide_false, Bool.false_eq_true, if_false]
      by_cases hw1 : way = 1
      · simp only [hw1, decide_true, if_true]
        subst hw1
        have one : ∀ (f0 : D), CellOk n f0 → (∃ xs, S'.hp p = some (OD.lst xs)) ∧ (-1000000000 ≤ L ∧ L ≤ 10000000) ∧ (rngD 0 L.toNat).length ≤ sizeLine ∧
            lcD (gNameD 10) tYesD (tCallD spOne (tConsD (tSlot 0) (tConsD (tSlot 7) tNilD))) [some .deck, some (.int L), some (.int m), some (.int n), some (.int 1), some (.ref p), some (.int (0 + (i : Int))), some (.lst [f0, .int (0 + (i : Int)), .non]), v8, none, none, none] (fun _ => True)
              (fun acc S2 => match S2.hp p with
                | some (OD.lst xs) => xs.length < 16000000 ∧ N [some .deck, some (.int L), some (.int m), some (.int n), some (.int 1), some (.ref p), some (.int (0 + (i : Int))), some (.lst [f0, .int (0 + (i : Int)), .non]), v8, none, none, none] (S2.set p (.lst (xs ++ [.tup acc])))
                | _ => False) (rngD 0 L.toNat) [] S' := fun f0 hf => by
          refine ⟨⟨_, e4⟩, ⟨by omega, by omega⟩, hsz, cells_lc (n := n) (S0 := S') (Up.refl S') hcS (by omega) (fun d acc S2 N2 hd hc2 hs2 k2 => ?_) fun acc S2 a1 a2 a3 a4 => ?_⟩
          · walk_at "rdx"
            refine ⟨_, _, rfl, rfl, by simp, by simp, hc2, fun y hy => k2 y ?_⟩
            rcases List.mem_cons.mp hy with e | hy
            · rw [e]; exact hf
            rcases List.mem_cons.mp hy with e | hy
            · rw [e]; exact .inr ⟨_, rfl, by omega, by omega⟩
            · rw [List.mem_singleton.mp hy]; exact .inl rfl
          · simp only [a4, e4]
            exact done acc S2 _ _ (by rw [a1, hrl, hLn]) a2 (a3.mono (by omega)) a4
        by_cases hs : 0 + (i : Int) + 1 < n
        · simp only [hs, decide_true, if_true]
          exact ⟨by decide, one _ (.inr ⟨_, rfl, by omega, by omega⟩)⟩
        · simp only [hs, decide_false, Bool.false_eq_true, if_false]
          exact ⟨by decide, one _ (.inl rfl)⟩
      · simp only [hw1, decide_false, Bool.false_eq_true, if_false]
        refine ⟨⟨by omega, by omega⟩, hsz, cells_lc (n := n) (S0 := S') (Up.refl S') hcS (by omega) (fun d acc S2 N2 hd hc2 hs2 k2 => ?_) fun acc S2 a1 a2 a3 a4 => ?_⟩
        · walk_at "rdx"
          exact ⟨⟨by omega, by omega, hc2⟩, fun r r0 r1 => k2 _ (.inr ⟨_, rfl, r0, r1⟩)⟩
        · refine ⟨⟨_, by rw [a4]; exact e4⟩, fun hz => ⟨hz, cells_lc (n := n) (S0 := S') a3 hcS (by omega) (fun d acc2 S3 N2 hd hc2 hs2 k2 => ?_) fun acc2 S3 b1 b2 b3 b4 => ?_⟩⟩
          · walk_at "rdx"
            refine ⟨⟨by omega, by omega, hc2⟩, fun r r0 r1 => ?_⟩
            by_cases hr : r = 0
            · simp only [hr, decide_true, if_true]
              exact k2 _ (.inl rfl)
            · simp only [hr, decide_false, Bool.false_eq_true, if_false]
              exact k2 _ (a2 d hd)
          · simp only [b4, a4, e4]
            exact done acc2 S3 _ _ (by rw [b1, a1, hrl, hLn]) b2 (b3.mono (by omega)) (b4.trans a4)
  · subst e1 hU
    rw [rngD_len] at e2 e5
    generalize hg : gNameD 6 = g6
    walk_at "rdx"
    subst hg
    refine ⟨by decide, _, _, rfl, rfl, by simp, by simp, by have := e5.c; omega, fun o ho => ?_⟩
    simp only [HD.tick_hp, e4]
    have hn : rows.length = n.toNat := e2
    have hnn : ((n.toNat : Nat) : Int) = n := Int.toNat_of_nonneg (by omega)
    have hrl : (rngD 0 n.toNat).length = n.toNat := rngD_len _ _
    obtain ⟨ov, rfl, o1, o2⟩ : ∃ ov : Int, o = .int ov ∧ 1 ≤ ov ∧ ov ≤ 5 := by
      rcases List.mem_cons.mp ho with e | ho
      · exact ⟨2, e, by decide, by decide⟩
      rcases List.mem_cons.mp ho with e | ho
      · exact ⟨2, e, by decide, by decide⟩
      rcases List.mem_cons.mp ho with e | ho
      · exact ⟨3, e, by decide, by decide⟩
      · exact ⟨5, List.mem_singleton.mp ho, by decide, by decide⟩
    refine ⟨⟨by omega, by omega⟩, by rw [hrl]; have : (sizeLine : Nat) = 16777216 := rfl; omega, ?_⟩
    refine lcD_go (fun i acc S2 => acc.length = i ∧ (∀ e ∈ acc, ∃ b, e = .bl b) ∧ Up (2 + 6 * n.toNat + 1 + i) S S2) ⟨rfl, fun c h => (by cases h), e5.tick (k := 1)⟩ (fun i d acc S2 N hi ⟨a1, a2, a3⟩ k => ⟨trivial, ?_⟩) fun acc S2 ⟨a1, a2, a3⟩ => ⟨trivial, by decide, ?_⟩
    · obtain ⟨hi1, rfl⟩ := rngD_get hi
      walk_at "rdx"
      refine ⟨⟨o1, by omega, by have := a3.c; omega⟩, fun r r0 r1 => k _ _ ⟨by rw [List.length_append, a1]; rfl, fun e he => ?_, a3.tick (k := 1)⟩⟩
      rcases List.mem_append.mp he with h | h
      · exact a2 e h
      · exact ⟨_, List.mem_singleton.mp h⟩
    · rw [hrl] at a1 a3
      refine (a3.mono (by omega)).fin (q _ ⟨rows, acc, rfl, by omega, by omega, by omega, ?_, a2⟩)
      rw [hn, hnn]
      exact e3
end PM
/-! PM12: one of a text's signs; machines as Mch; the great one. -/
namespace PM
open PySem PySem.Spec PyProof.Rows PD
theorem cells_conv {n : Int} : ∀ (cells : List D), (∀ c ∈ cells, CellOk n c) → ∃ r : List (Option Nat), cells = r.map encC ∧ ∀ c ∈ r, ∀ t, c = some t → (t : Int) < n
  | [], _ => ⟨[], rfl, fun c h => (by cases h)⟩
  | c :: cs, h => by
    obtain ⟨r, e, hr⟩ := cells_conv cs fun x hx => h x (List.mem_cons_of_mem _ hx)
    rcases h c List.mem_cons_self with e1 | ⟨j, e1, j0, j1⟩
    · refine ⟨none :: r, by rw [e1, e]; rfl, fun x hx t ht => ?_⟩
      rcases List.mem_cons.mp hx with q | q
      · rw [q] at ht; cases ht
      · exact hr x q t ht
    · refine ⟨some j.toNat :: r, ?_, fun x hx t ht => ?_⟩
      · rw [e1, e, List.map_cons]
        show _ = D.int ((j.toNat : Nat) : Int) :: _
        rw [Int.toNat_of_nonneg j0]
      · rcases List.mem_cons.mp hx with q | q
        · rw [q] at ht
          cases ht
          omega
        · exact hr x q t ht
theorem rows_conv {L : Nat} {n : Int} : ∀ (rows : List D), (∀ r ∈ rows, RowOk L n r) → ∃ rs : List (List (Option Nat)), rows = rs.map encR ∧ (∀ r ∈ rs, r.length = L) ∧ ∀ r ∈ rs, ∀ c ∈ r, ∀ t, c = some t → (t : Int) < n
  | [], _ => ⟨[], rfl, fun c h => (by cases h), fun c h => (by cases h)⟩
  | r :: rows, h => by
    obtain ⟨rs, e, h1, h2⟩ := rows_conv rows fun x hx => h x (List.mem_cons_of_mem _ hx)
    obtain ⟨cells, e1, hl, hc⟩ := h r List.mem_cons_self
    obtain ⟨r0, e2, h3⟩ := cells_conv cells hc
    refine ⟨r0 :: rs, by rw [e1, e2, e]; rfl, fun x hx => ?_, fun x hx => ?_⟩
    · rcases List.mem_cons.mp hx with q | q
      · rw [q]
        rw [e2, List.length_map] at hl
        omega
      · exact h1 x q
    · rcases List.mem_cons.mp hx with q | q
      · rw [q]; exact h3
      · exact h2 x q
theorem ends_conv : ∀ (es : List D), (∀ e ∈ es, ∃ b, e = .bl b) → ∃ bs : List Bool, es = bs.map .bl
  | [], _ => ⟨[], rfl⟩
  | e :: es, h => by
    obtain ⟨bs, q⟩ := ends_conv es fun x hx => h x (List.mem_cons_of_mem _ hx)
    obtain ⟨b, hb⟩ := h e List.mem_cons_self
    exact ⟨b :: bs, by rw [hb, q]; rfl⟩
theorem mach_conv {L : Nat} {m : Int} {M : D} (l1 : 1 ≤ L) (l3 : L ≤ 3) (hm : m ≤ 400) (h : MachOk L m M) : ∃ A : Mch, M = enc A ∧ A.Ok ∧ A.L = L ∧ (A.rows.length : Int) ≤ m := by
  obtain ⟨rows, es, rfl, h1, h2, h3, h4, h5⟩ := h
  obtain ⟨rs, e1, w1, w2⟩ := rows_conv rows h4
  obtain ⟨bs, e2⟩ := ends_conv es h5
  have hr : rows.length = rs.length := by rw [e1, List.length_map]
  have he : es.length = bs.length := by rw [e2, List.length_map]
  refine ⟨⟨L, rs, bs⟩, by rw [e1, e2]; rfl, ⟨l1, l3, by rw [← hr]; exact h1, ?_, by rw [← hr, ← he]; exact h3, w1, fun r hr2 c hc t ht => ?_⟩, rfl, by rw [← hr]; exact h2⟩
  · show rs.length ≤ 400
    omega
  · have := w2 r hr2 c hc t ht
    rw [hr] at this
    show t < rs.length
    omega
end PM
end
section
/-! PM13: plain laws of the words; small data. -/
namespace PM
open PySem PySem.Spec PyProof.Rows PD
def Mch.accF (M : Mch) (s : Nat) (w : List Nat) : Bool := match M.run (some s) w with
  | some s => M.fin s
  | none => false
theorem accF_cons (M : Mch) (s c : Nat) (w : List Nat) : M.accF s (c :: w) = (match M.nx s c with | some t => M.accF t w | none => false) := by
  unfold Mch.accF
  show (match M.run (M.nxo (some s) c) w with | some s => M.fin s | none => false) = _
  have : M.nxo (some s) c = M.nx s c := rfl
  rw [this]
  cases M.nx s c with
  | none => rw [run_none]
  | some t => rfl
end PM
end
section
/-! PN1: machines as plain mathematics: residuals, reduced machines, their being one alone. -/
namespace PM
theorem sub_len {α : Type} [BEq α] [LawfulBEq α] : ∀ {l m : List α}, l.Nodup → (∀ x ∈ l, x ∈ m) → l.length ≤ m.length
  | [], _, _, _ => Nat.zero_le _
  | x :: l, m, hn, hs => by
    rw [List.nodup_cons] at hn
    have hx := hs x List.mem_cons_self
    have ih := sub_len (l := l) (m := m.erase x) hn.2 fun y hy => by
      have ne : y ≠ x := fun e => hn.1 (e ▸ hy)
      exact (List.mem_erase_of_ne ne).mpr (hs y (List.mem_cons_of_mem _ hy))
    rw [List.length_erase_of_mem hx] at ih
    have : 0 < m.length := List.length_pos_of_mem hx
    simp only [List.length_cons]
    omega
theorem pig {k : Nat} {l : List Nat} (hn : l.Nodup) (hl : ∀ x ∈ l, x < k) (hk : k ≤ l.length) (y : Nat) (hy : y < k) : y ∈ l := by
  apply Classical.byContradiction
  intro h
  have := sub_len (m := (List.range k).erase y) hn fun x hx => (List.mem_erase_of_ne fun (e : x = y) => h (e ▸ hx)).mpr (List.mem_range.mpr (hl x hx))
  rw [List.length_erase_of_mem (List.mem_range.mpr hy), List.length_range] at this
  omega
theorem lt_len {k : Nat} {l : List Nat} (hn : l.Nodup) (hl : ∀ x ∈ l, x < k) : l.length ≤ k := by
  have := sub_len (m := List.range k) hn fun x hx => List.mem_range.mpr (hl x hx)
  simpa using this
/-- residuals -/
def Mch.live (M : Mch) (s : Nat) : Prop := ∃ w, M.accF s w = true
def Mch.req (M : Mch) (s t : Nat) : Prop := ∀ w, M.accF s w = M.accF t w
def Mch.reach (M : Mch) (s : Nat) : Prop := ∃ w, M.run (some 0) w = some s
theorem acc_F (M : Mch) (w : List Nat) : M.acc w = M.accF 0 w := rfl
theorem accF_nil (M : Mch) (s : Nat) : M.accF s [] = M.fin s := rfl
theorem nx_ge {M : Mch} (ok : M.Ok) {s c : Nat} (h : M.L ≤ c) : M.nx s c = none := by
  unfold Mch.nx
  cases e : M.rows[s]? with
  | none => rfl
  | some r =>
    have := ok.wd r (List.mem_of_getElem? e)
    simp [List.getElem?_eq_none (show r.length ≤ c by omega)]
theorem nx_c {M : Mch} (ok : M.Ok) {s c t : Nat} (h : M.nx s c = some t) : c < M.L := by
  apply Nat.lt_of_not_le
  intro z
  rw [nx_ge ok z] at h
  cases h
theorem nx_s {M : Mch} {s c t : Nat} (h : M.nx s c = some t) : s < M.rows.length := by
  apply Nat.lt_of_not_le
  intro z
  unfold Mch.nx at h
  rw [List.getElem?_eq_none z] at h
  cases h
theorem live_nx {M : Mch} {s c t : Nat} (h : M.nx s c = some t) (l : M.live t) : M.live s := by
  obtain ⟨w, hw⟩ := l
  exact ⟨c :: w, by rw [accF_cons, h]; exact hw⟩
theorem live_next {M : Mch} {s : Nat} {c : Nat} {w : List Nat} (h : M.accF s (c :: w) = true) : ∃ t, M.nx s c = some t ∧ M.accF t w = true := by
  rw [accF_cons] at h
  cases e : M.nx s c with
  | none => rw [e] at h; cases h
  | some t => rw [e] at h; exact ⟨t, rfl, h⟩
theorem run_app (M : Mch) : ∀ (u v : List Nat) (s : Option Nat), M.run s (u ++ v) = M.run (M.run s u) v
  | [], _, _ => rfl
  | c :: u, v, s => run_app M u v (M.nxo s c)
theorem reach_0 (M : Mch) : M.reach 0 := ⟨[], rfl⟩
theorem reach_nx {M : Mch} {s c t : Nat} (r : M.reach s) (h : M.nx s c = some t) : M.reach t := by
  obtain ⟨w, hw⟩ := r
  exact ⟨w ++ [c], by rw [run_app, hw]; exact h⟩
/-- all that is reached lies in a closed set with 0 -/
theorem reach_in {M : Mch} (P : Nat → Prop) (h0 : P 0) (h : ∀ s c t, P s → M.nx s c = some t → P t) : ∀ (w : List Nat) (s t : Nat), P s → M.run (some s) w = some t → P t
  | [], s, t, hs, e => by cases e; exact hs
  | c :: w, s, t, hs, e => by
    have e' : M.run (M.nx s c) w = some t := e
    cases hn : M.nx s c with
    | none => rw [hn, run_none] at e'; cases e'
    | some u => rw [hn] at e'; exact reach_in P h0 h w u t (h s c u hs hn) e'
theorem live_in {M : Mch} (P : Nat → Prop) (h0 : ∀ s, M.fin s = true → P s) (h : ∀ s c t, M.nx s c = some t → P t → P s) : ∀ (w : List Nat) (s : Nat), M.accF s w = true → P s
  | [], s, e => h0 s e
  | c :: w, s, e => by
    obtain ⟨t, h1, h2⟩ := live_next e
    exact h s c t h1 (live_in P h0 h w t h2)
/-- numbered as the first words come to the states -/
structure Red (M : Mch) : Prop where
  live : ∀ s, s < M.rows.length → M.live s
  dis : ∀ s t, s < M.rows.length → t < M.rows.length → M.req s t → s = t
  num : ∀ j, 0 < j → j < M.rows.length → ∃ i c, i < j ∧ M.nx i c = some j ∧ ∀ i' c' j', (i' < i ∨ (i' = i ∧ c' < c)) → M.nx i' c' = some j' → j' < j
def triv (L : Nat) : Mch := ⟨L, [List.replicate L none], [false]⟩
def Smallest (M : Mch) : Prop := Red M ∨ (M = triv M.L ∧ ∀ w, M.acc w = false)
theorem red_step {M1 M2 : Mch} (o1 : M1.Ok) (o2 : M2.Ok) (r1 : Red M1) (r2 : Red M2) (e : ∀ w, M1.acc w = M2.acc w) : ∀ n j, j < n → j < M1.rows.length → j < M2.rows.length ∧ ∀ w, M1.accF j w = M2.accF j w
  | 0, j, h, _ => absurd h (Nat.not_lt_zero _)
  | n + 1, j, hjn, hj => by
    have IH : ∀ j', j' < j → j' < M1.rows.length → j' < M2.rows.length ∧ ∀ w, M1.accF j' w = M2.accF j' w := fun j' h h' => red_step o1 o2 r1 r2 e n j' (by omega) h'
    by_cases h0 : j = 0
    · subst h0
      exact ⟨o2.n1, e⟩
    obtain ⟨i, c, hi, hn, hmin⟩ := r1.num j (by omega) hj
    obtain ⟨hi2, ei⟩ := IH i hi (by omega)
    have step : ∀ {i c t}, i < j → M1.nx i c = some t → (∀ w, M1.accF i w = M2.accF i w) → M1.live t → ∃ t2, M2.nx i c = some t2 ∧ ∀ w, M1.accF t w = M2.accF t2 w := by
      intro i c t _ hn ei ⟨w, hw⟩
      have : M2.accF i (c :: w) = true := by rw [← ei, accF_cons, hn]; exact hw
      obtain ⟨t2, h1, _⟩ := live_next this
      refine ⟨t2, h1, fun v => ?_⟩
      have := ei (c :: v)
      rw [accF_cons, accF_cons, hn, h1] at this
      exact this
    obtain ⟨j2, hn2, e2⟩ := step hi hn ei (r1.live j hj)
    have hj2 := M2.nx_lt o2 hn2
    have ge : ¬ j2 < j := fun lt => by
      obtain ⟨_, e3⟩ := IH j2 lt (by omega)
      have := r1.dis j2 j (by omega) hj fun w => by rw [e3, e2]
      omega
    have le : ¬ j < j2 := fun lt => by
      obtain ⟨i0, c0, hi0, hn0, hmin0⟩ := r2.num j (by omega) (by omega)
      have ea : i0 < i ∨ (i0 = i ∧ c0 < c) := by
        rcases Nat.lt_trichotomy i i0 with h | h | h
        · have := hmin0 i c j2 (.inl h) hn2; omega
        · rcases Nat.lt_trichotomy c c0 with h' | h' | h'
          · have := hmin0 i c j2 (.inr ⟨h, h'⟩) hn2; omega
          · subst h h'
            rw [hn2] at hn0
            injection hn0
            omega
          · exact .inr ⟨h.symm, h'⟩
        · exact .inl h
      have hi0j : i0 < j := hi0
      obtain ⟨_, e0⟩ := IH i0 hi0j (by omega)
      obtain ⟨w, hw⟩ := r2.live j (by omega)
      have : M1.accF i0 (c0 :: w) = true := by rw [e0, accF_cons, hn0]; exact hw
      obtain ⟨j', hn', _⟩ := live_next this
      have hj' : j' < j := hmin i0 c0 j' ea hn'
      have e4 : ∀ v, M1.accF j' v = M2.accF j v := fun v => by
        have := e0 (c0 :: v)
        rw [accF_cons, accF_cons, hn', hn0] at this
        exact this
      obtain ⟨h5, e5⟩ := IH j' hj' (by omega)
      have := r2.dis j' j h5 (by omega) fun w => by rw [← e5, e4]
      omega
    have : j2 = j := by omega
    subst this
    exact ⟨hj2, e2⟩
theorem red_nx {M1 M2 : Mch} (o1 : M1.Ok) (o2 : M2.Ok) (r1 : Red M1) (r2 : Red M2) (e : ∀ w, M1.acc w = M2.acc w) {i c t : Nat} (h : M1.nx i c = some t) : M2.nx i c = some t := by
  have hi := nx_s h
  have ht := M1.nx_lt o1 h
  obtain ⟨h2, ei⟩ := red_step o1 o2 r1 r2 e (i + 1) i (by omega) hi
  obtain ⟨w, hw⟩ := r1.live t ht
  have : M2.accF i (c :: w) = true := by rw [← ei, accF_cons, h]; exact hw
  obtain ⟨t2, h1, _⟩ := live_next this
  have e3 : ∀ v, M1.accF t v = M2.accF t2 v := fun v => by
    have := ei (c :: v)
    rw [accF_cons, accF_cons, h, h1] at this
    exact this
  obtain ⟨h4, e4⟩ := red_step o1 o2 r1 r2 e (t + 1) t (by omega) ht
  have := r2.dis t t2 h4 (M2.nx_lt o2 h1) fun w => by rw [← e4, e3]
  subst this
  exact h1
theorem red_eq {M1 M2 : Mch} (o1 : M1.Ok) (o2 : M2.Ok) (r1 : Red M1) (r2 : Red M2) (hL : M1.L = M2.L) (e : ∀ w, M1.acc w = M2.acc w) : M1 = M2 := by
  have n12 : M1.rows.length = M2.rows.length := by
    apply Nat.le_antisymm
    · apply Nat.le_of_not_lt
      intro h
      exact Nat.lt_irrefl _ (red_step o1 o2 r1 r2 e (M2.rows.length + 1) M2.rows.length (by omega) h).1
    · apply Nat.le_of_not_lt
      intro h
      exact Nat.lt_irrefl _ (red_step o2 o1 r2 r1 (fun w => (e w).symm) (M1.rows.length + 1) M1.rows.length (by omega) h).1
  have nx12 : ∀ i c, M1.nx i c = M2.nx i c := fun i c => by
    cases h : M1.nx i c with
    | some t => exact (red_nx o1 o2 r1 r2 e h).symm
    | none =>
      cases h2 : M2.nx i c with
      | none => rfl
      | some t =>
        have := red_nx o2 o1 r2 r1 (fun w => (e w).symm) h2
        rw [h] at this
        cases this
  have rows : M1.rows = M2.rows := by
    apply List.ext_getElem n12
    intro i h1 h2
    have l1 := o1.wd _ (List.getElem_mem h1)
    have l2 := o2.wd _ (List.getElem_mem h2)
    apply List.ext_getElem (by omega)
    intro c c1 c2
    have := nx12 i c
    unfold Mch.nx at this
    simpa [h1, h2, c1, c2] using this
  have ends : M1.ends = M2.ends := by
    apply List.ext_getElem (by rw [o1.en, o2.en, n12])
    intro i h1 h2
    have hi : i < M1.rows.length := by rw [← o1.en]; exact h1
    have := (red_step o1 o2 r1 r2 e (i + 1) i (by omega) hi).2 []
    rw [accF_nil, accF_nil] at this
    unfold Mch.fin at this
    simpa [h1, h2] using this
  cases M1
  cases M2
  simp only at hL rows ends
  subst hL rows ends
  rfl
theorem smallest_eq {M1 M2 : Mch} (o1 : M1.Ok) (o2 : M2.Ok) (r1 : Smallest M1) (r2 : Smallest M2) (hL : M1.L = M2.L) (e : ∀ w, M1.acc w = M2.acc w) : M1 = M2 := by
  have non : ∀ {M M' : Mch}, M.Ok → Red M → (∀ w, M.acc w = M'.acc w) → (∀ w, M'.acc w = false) → False := fun o r e e2 => by
    obtain ⟨w, hw⟩ := r.live 0 o.n1
    have := e w
    rw [e2] at this
    rw [← acc_F, this] at hw
    cases hw
  rcases r1 with r1 | ⟨e1, f1⟩ <;> rcases r2 with r2 | ⟨e2, f2⟩
  · exact red_eq o1 o2 r1 r2 hL e
  · exact (non o1 r1 e f2).elim
  · exact (non o2 r2 (fun w => (e w).symm) f1).elim
  · rw [e1, e2, hL]
/-! ### parts -/
theorem stable {st qs : List Nat} {p g : Nat → Nat} {many more : Nat} (hq : ∀ q ∈ qs, q ∈ st) (hqn : (qs.map p).Nodup) (hl : qs.length = many) (hg : ∀ s ∈ st, g s < more) (href : ∀ s ∈ st, ∀ t ∈ st, g s = g t → p s = p t) (hle : more ≤ many) :
    ∀ s ∈ st, ∀ t ∈ st, p s = p t → g s = g t := by
  have hgn : (qs.map g).Nodup := by
    unfold List.Nodup at hqn ⊢
    rw [List.pairwise_map] at hqn ⊢
    exact hqn.imp_of_mem fun {a b} ha hb h e => h (href a (hq a ha) b (hq b hb) e)
  have rep : ∀ s ∈ st, ∃ q ∈ qs, g q = g s := fun s hs => by
    have := pig hgn (fun x hx => by obtain ⟨q, h1, rfl⟩ := List.mem_map.mp hx; exact hg q (hq q h1)) (by rw [List.length_map]; omega) (g s) (hg s hs)
    obtain ⟨q, h1, h2⟩ := List.mem_map.mp this
    exact ⟨q, h1, h2⟩
  intro s hs t ht e
  obtain ⟨q, h1, h2⟩ := rep s hs
  obtain ⟨q', h3, h4⟩ := rep t ht
  have e1 := href q (hq q h1) s hs h2
  have e2 := href q' (hq q' h3) t ht h4
  have : q = q' := by
    unfold List.Nodup at hqn
    rw [List.pairwise_map] at hqn
    apply Classical.byContradiction
    intro ne
    have key : ∀ (l : List Nat), l.Pairwise (fun a b => p a ≠ p b) → ∀ a ∈ l, ∀ b ∈ l, a ≠ b → p a ≠ p b := by
      intro l hl
      induction l with
      | nil => intro a ha; cases ha
      | cons x l ih =>
        rw [List.pairwise_cons] at hl
        intro a ha b hb ne
        rcases List.mem_cons.mp ha with ea | ha'
        · rcases List.mem_cons.mp hb with eb | hb'
          · exact (ne (ea.trans eb.symm)).elim
          · rw [ea]; exact hl.1 b hb'
        · rcases List.mem_cons.mp hb with eb | hb'
          · rw [eb]; exact fun e => hl.1 a ha' e.symm
          · exact ih hl.2 a ha' b hb' ne
    exact key qs hqn q h1 q' h3 ne (by rw [e1, e2, e])
  rw [← h2, ← h4, this]
open PySem PySem.Spec PyProof.Rows PD
/-- a tuple or a frozen list -/
def seqD : Bool → List D → D
  | true, xs => .tup xs
  | false, xs => .lst xs
section
variable {S : HD} {b : Bool} {xs : List D}
theorem asSeq_sq : asSeq S (seqD b xs) = some xs := by cases b <;> rfl
theorem asDic_sq : asDic S (seqD b xs) = none := by cases b <;> rfl
theorem tdOf_sq : tdOf S (seqD b xs) = none := by cases b <;> rfl
theorem srcD_sq : srcD S (seqD b xs) = some (xs, fun _ => True) := by cases b <;> rfl
theorem rIxD_sq {i : Int} {Q : QD} : rIxD (seqD b xs) (.int i) S Q = (match L2.atI xs i with
  | some d => Q d S
  | none => False) := by cases b <;> rfl
theorem any_sq {A : Str → Prop} {B : Prop} (h : B) : (match seqD b xs with
  | .str z => A z
  | _ => B) := by cases b <;> exact h
end
end PM
end
section
namespace PM
open PySem PySem.Spec PyProof.Rows L2 PD
def rd_met_from : TSD :=
  sSeqD (sPar3 1 2 3 (tConsD (tLstR (tConsD (tCD (.int 0)) (tNilD))) (tConsD (tDispR [(tCD (.int 0), tCD (.bl true))]) (tConsD (tCD (.int 0)) (tNilD)))))
  (sSeqD (sWhileD (tTst (tBin (rCmpI fLt) (tSlot 3) (tCallD rLenD (tConsD (tSlot 1) (tNilD))))) (sSeqD (sForD (iAnyD (tBin rIxX (tSlot 0) (tBin rIxX (tSlot 1) (tSlot 3)))) (gNameD 4) (sIfD (tAndD (tTst (tUnD rNotN (tSlot 4))) (tTst (tBin (rInY true) (tSlot 4) (tSlot 2)))) (sSeqD (sAsgD (tCD (.bl true)) (gSubX (tSlot 2) (tSlot 4)))
  (sDropD (tMethL rAppD (tSlot 1) (tConsD (tSlot 4) (tNilD))))) (sNextD)))
  (sAsgD (tBin rAddD (tSlot 3) (tCD (.int 1))) (gNameD 3))))
  (sRetD (tSlot 1)))
def rd_living : TSD :=
  sSeqD (sAsgD (tLcV (iAnyD (tSlot 0)) (gNameD 4) (tYesD) (tLstR (tNilD)) [4]) (gNameD 2))
  (sSeqD (sForD (iEnumD (tConsD (tSlot 0) (tNilD))) (gTupD 2 (gConsD (gNameD 3) (gConsD (gNameD 4) (gNilD)))) (sForD (iAnyD (tSlot 4)) (gNameD 5) (sIfD (tTst (tUnD rNotN (tSlot 5))) (sDropD (tMethL rAppD (tBin rIxX (tSlot 2) (tSlot 5)) (tConsD (tSlot 3) (tNilD)))) (sNextD))))
  (sSeqD (sAsgD (tDicR) (gNameD 6))
  (sSeqD (sForD (iEnumD (tConsD (tSlot 1) (tNilD))) (gTupD 2 (gConsD (gNameD 3) (gConsD (gNameD 7) (gNilD)))) (sIfD (tTst (tSlot 7)) (sAsgD (tCD (.bl true)) (gSubX (tSlot 6) (tSlot 3))) (sNextD)))
  (sSeqD (sAsgD (tCallD (rListW true) (tConsD (tSlot 6) (tNilD))) (gNameD 8))
  (sSeqD (sWhileD (tTst (tBin rNeD (tSlot 8) (tLstV (tNilD)))) (sForD (iAnyD (tBin rIxX (tSlot 2) (tMethA rPopD (tSlot 8) tNilD))) (gNameD 3) (sIfD (tTst (tBin (rInY true) (tSlot 3) (tSlot 6))) (sSeqD (sAsgD (tCD (.bl true)) (gSubX (tSlot 6) (tSlot 3)))
  (sDropD (tMethL rAppD (tSlot 8) (tConsD (tSlot 3) (tNilD))))) (sNextD))))
  (sRetD (tSlot 6)))))))
def rd_parted (w : World) : TSD :=
  sSeqD (sAsgD (tDcV (iAnyD (tSlot 2)) (gNameD 8) (tYesD) (tSlot 8) (tCallD rIntD (tConsD (tBin (rIxW w) (tSlot 1) (tSlot 8)) (tNilD))) [8]) (gNameD 3))
  (sSeqD (sPar2 4 5 (tConsD (tCD (.int 0)) (tConsD (tLenSetD (tLcV (iAnyD (tSlot 2)) (gNameD 8) (tYesD) (tBin (rIxW w) (tSlot 3) (tSlot 8)) [8])) (tNilD))))
  (sSeqD (sWhileD (tTst (tBin (rCmpI fGt) (tSlot 5) (tSlot 4))) (sSeqD (sPar3 4 6 7 (tConsD (tSlot 5) (tConsD (tDicW w) (tConsD (tDicW w) (tNilD)))))
  (sSeqD (sForD (iAnyD (tSlot 2)) (gNameD 8) (sSeqD (sAsgD (tBin rAddD (tTupD (tConsD (tBin (rIxW w) (tSlot 3) (tSlot 8)) (tNilD))) (tCallD rTupleD (tConsD (tLcV (iAnyD (tBin (rIxW w) (tSlot 0) (tSlot 8))) (gNameD 10) (tYesD) (tMethW w (rGetW w) (tSlot 3) (tConsD (tSlot 10) (tNilD))) [10]) (tNilD)))) (gNameD 9))
  (sAsgD (tMethW w (rSetdW w) (tSlot 6) (tConsD (tSlot 9) (tConsD (tCallD (rLenW w) (tConsD (tSlot 6) (tNilD))) (tNilD)))) (gSubW w (tSlot 7) (tSlot 8)))))
  (sSeqD (sCvD (sAsgD (tTupD (tConsD (tSlot 7) (tConsD (tCallD (rLenW w) (tConsD (tSlot 6) (tNilD))) (tNilD)))) (gTupD 2 (gConsD (gNameD 3) (gConsD (gNameD 5) (gNilD))))))
  (sIfD (tTst (tBin (rCmpI fGt) (tSlot 5) (tCD (.int 400)))) (sNeverD) (sNextD))))))
  (sRetD (tSlot 3))))
def rd_shrunk (sp_living : SpD) (sp_parted : SpD) (sp_met_from : SpD) : TSD :=
  sSeqD (sAsgD (tCallD sp_living (tConsD (tSlot 1) (tConsD (tSlot 2) (tNilD)))) (gNameD 3))
  (sSeqD (sIfD (tTst (tBin (rInY true) (tCD (.int 0)) (tSlot 3))) (sRetD (tTupD (tConsD (tSlot 0) (tConsD (tTupD (tConsD (tBin rMulD (tTupD (tConsD (tCD .non) (tNilD))) (tSlot 0)) (tNilD))) (tConsD (tTupD (tConsD (tCD (.bl false)) (tNilD))) (tNilD)))))) (sNextD))
  (sSeqD (sAsgD (tCallD sp_parted (tConsD (tSlot 1) (tConsD (tSlot 2) (tConsD (tLcV (iAnyD (tCallD sp_met_from (tConsD (tSlot 1) (tNilD)))) (gNameD 10) (tTst (tBin (rInY false) (tSlot 10) (tSlot 3))) (tSlot 10) [10]) (tNilD))))) (gNameD 4))
  (sSeqD (sPar3 5 6 7 (tConsD (tLstR (tConsD (tCD (.int 0)) (tNilD))) (tConsD (tDispR [(tBin rIxX (tSlot 4) (tCD (.int 0)), tCD (.int 0))]) (tConsD (tLstR (tNilD)) (tNilD)))))
  (sSeqD (sWhileD (tTst (tBin (rCmpI fLt) (tCallD rLenD (tConsD (tSlot 7) (tNilD))) (tCallD rLenD (tConsD (tSlot 5) (tNilD))))) (sSeqD (sAsgD (tLstR (tNilD)) (gNameD 8))
  (sSeqD (sForD (iAnyD (tBin rIxX (tSlot 1) (tBin rIxX (tSlot 5) (tCallD rLenD (tConsD (tSlot 7) (tNilD)))))) (gNameD 9) (sSeqD (sIfD (tAndD (tTst (tBin (rInY false) (tSlot 9) (tSlot 4))) (tTst (tBin (rInY true) (tBin rIxX (tSlot 4) (tSlot 9)) (tSlot 6)))) (sSeqD (sAsgD (tCallD rLenD (tConsD (tSlot 5) (tNilD))) (gSubX (tSlot 6) (tBin rIxX (tSlot 4) (tSlot 9))))
  (sDropD (tMethL rAppD (tSlot 5) (tConsD (tSlot 9) (tNilD))))) (sNextD))
  (sDropD (tMethL rAppD (tSlot 8) (tConsD (tIfD (tTst (tBin (rInY false) (tSlot 9) (tSlot 4))) (tBin rIxX (tSlot 6) (tBin rIxX (tSlot 4) (tSlot 9))) (tCD .non)) (tNilD))))))
  (sDropD (tMethL rAppD (tSlot 7) (tConsD (tCallD rTupleD (tConsD (tSlot 8) (tNilD))) (tNilD)))))))
  (sRetD (tTupD (tConsD (tSlot 0) (tConsD (tCallD rTupleD (tConsD (tSlot 7) (tNilD))) (tConsD (tCallD rTupleD (tConsD (tLcV (iAnyD (tSlot 5)) (gNameD 10) (tYesD) (tCallD rBoolD (tConsD (tBin rIxX (tSlot 2) (tSlot 10)) (tNilD))) [10]) (tNilD))) (tNilD))))))))))
def rd_smallest (sp_shrunk : SpD) : TSD :=
  sRetD (tCallD sp_shrunk (tConsD (tBin rIxX (tSlot 0) (tCD (.int 0))) (tConsD (tBin rIxX (tSlot 0) (tCD (.int 1))) (tConsD (tBin rIxX (tSlot 0) (tCD (.int 2))) (tNilD)))))
end PM
end
section
local macro_rules | `(tactic| walk_at "rdx") => `(tactic| simp only [PD.pad, PD.gt_z, PD.gt_s, PD.st_z, PD.st_s, PD.sNextD, PD.sSeqD, PD.sBreakD, PD.sContD, PD.sDropD, PD.sRetD, PD.sRetND, PD.sIfD, PD.sNeverD, PD.sAsgD, PD.sPar2, PD.sPar3, PD.gNameD, PD.gNilD, PD.gConsD, PD.gTupD, PD.gSubD, PD.tNilD, PD.tConsD, PD.tTupD, PD.tLstV, PD.tLstR, PD.tBin, PD.tTst, PD.tAndD, PD.tOrD, PD.tNotD, PD.tIfD, PD.tAndV, PD.tOrV, PD.tNotV, PD.tUnD, PD.rNeg, PD.tCallD, PD.tSlot, PD.tCD, PD.tChainD, PD.rIsN, PD.rNotN, PD.rIsiD, PD.isi_non, PD.isi_bl, PD.isi_int, PD.isi_str, PD.isi_tup, PD.isi_lst, PD.isi_dic, PD.Ty.name, PD.rCmpI, PD.fLt, PD.fLe, PD.fGt, PD.fGe, PD.rAddD, PD.rSubD, PD.rFdivD, PD.rModD, PD.rPowD, PD.rMulD, PD.rAddR, PD.rMulR, PD.asSeq, PD.asLst, PD.rLenD, PD.rTupleD, PD.rListV, PD.rListR, PD.rIntD, PD.rBoolD, PD.rAbsD, PD.rIxD, PD.oNone, PD.oSome, PD.tSlD, PD.rSlD, PD.tRevTD, PD.rEqD, PD.rNeD, PD.nrm_non, PD.nrm_bl, PD.nrm_int, PD.nrm_str, PD.nrm_tup, PD.nrm_lst, PD.nrm_dic, PD.nrm_ref, PD.iSeqD, PD.iRng1D, PD.iRng2D, PD.sForD, PD.tLcV, PD.tLcR, PD.tYesD, PD.wipeD, PD.tMethL, PD.rAppD, PD.isRefL, PD.tDicV, PD.keyOf, PD.asDic, PD.srcD, PD.iAnyD, PD.iZipD, PD.iEnumD, PD.tDcV, PD.tDicR, PD.gSubX, PD.rSetX, PD.rIxX, PD.rInD, PD.rInX, PD.rInY, PD.rSumD, PD.tRevLD, PD.tRevX, PD.rSixD, PD.rJoinD, PD.tMethS, PD.rLixD, PD.rPopD, PD.rExtD, PD.tMethA, PD.rSetD, PD.rReprD, PD.eqk_int, PD.eqd_int, PD.eqk_str, PD.eqd_str, PD.eqk_lst0, PD.eqd_lst0, PD.eqk_tup0, PD.eqd_tup0, PD.tdOf, PD.keyT, PD.nksOf, PD.nkOf, PD.rInW, PD.rIxW, PD.rSetW, PD.gSubW, PD.rLenW, PD.rGetW, PD.rGetAt, PD.tMethW, PD.rSetdW, PD.tDispR, PD.tPairsD, PD.putAll, PD.tDisp1T, PD.gSeqD, PD.rListW, PD.tLenSetD, ↓PM.asSeq_sq, ↓PM.asDic_sq, ↓PM.srcD_sq, ↓PM.tdOf_sq, ↓PM.rIxD_sq, Option.map_some, Option.bind_some, PD.spFn, PD.spDraw, reduceIte, true_and, and_true, or_false, false_or, Bool.not_true, Bool.not_false, Bool.false_eq_true, List.length_cons, List.length_nil, List.set_cons_zero, List.set_cons_succ, PD.HD.set_same, PD.HD.tick_hp, PD.HD.tick_c, PD.HD.tick_dk, PD.HD.set_c, PD.HD.set_dk])
local macro_rules | `(tactic| simp_all only [$xs,*]) => `(tactic| simp only [PD.pad, PD.gt_z, PD.gt_s, PD.st_z, PD.st_s, PD.sNextD, PD.sSeqD, PD.sBreakD, PD.sContD, PD.sDropD, PD.sRetD, PD.sRetND, PD.sIfD, PD.sNeverD, PD.sAsgD, PD.sPar2, PD.sPar3, PD.gNameD, PD.gNilD, PD.gConsD, PD.gTupD, PD.gSubD, PD.tNilD, PD.tConsD, PD.tTupD, PD.tLstV, PD.tLstR, PD.tBin, PD.tTst, PD.tAndD, PD.tOrD, PD.tNotD, PD.tIfD, PD.tAndV, PD.tOrV, PD.tNotV, PD.tUnD, PD.rNeg, PD.tCallD, PD.tSlot, PD.tCD, PD.tChainD, PD.rIsN, PD.rNotN, PD.rIsiD, PD.isi_non, PD.isi_bl, PD.isi_int, PD.isi_str, PD.isi_tup, PD.isi_lst, PD.isi_dic, PD.Ty.name, PD.rCmpI, PD.fLt, PD.fLe, PD.fGt, PD.fGe, PD.rAddD, PD.rSubD, PD.rFdivD, PD.rModD, PD.rPowD, PD.rMulD, PD.rAddR, PD.rMulR, PD.asSeq, PD.asLst, PD.rLenD, PD.rTupleD, PD.rListV, PD.rListR, PD.rIntD, PD.rBoolD, PD.rAbsD, PD.rIxD, PD.oNone, PD.oSome, PD.tSlD, PD.rSlD, PD.tRevTD, PD.rEqD, PD.rNeD, PD.nrm_non, PD.nrm_bl, PD.nrm_int, PD.nrm_str, PD.nrm_tup, PD.nrm_lst, PD.nrm_dic, PD.nrm_ref, PD.iSeqD, PD.iRng1D, PD.iRng2D, PD.sForD, PD.tLcV, PD.tLcR, PD.tYesD, PD.wipeD, PD.tMethL, PD.rAppD, PD.isRefL, PD.tDicV, PD.keyOf, PD.asDic, PD.srcD, PD.iAnyD, PD.iZipD, PD.iEnumD, PD.tDcV, PD.tDicR, PD.gSubX, PD.rSetX, PD.rIxX, PD.rInD, PD.rInX, PD.rInY, PD.rSumD, PD.tRevLD, PD.tRevX, PD.rSixD, PD.rJoinD, PD.tMethS, PD.rLixD, PD.rPopD, PD.rExtD, PD.tMethA, PD.rSetD, PD.rReprD, PD.eqk_int, PD.eqd_int, PD.eqk_str, PD.eqd_str, PD.eqk_lst0, PD.eqd_lst0, PD.eqk_tup0, PD.eqd_tup0, PD.tdOf, PD.keyT, PD.nksOf, PD.nkOf, PD.rInW, PD.rIxW, PD.rSetW, PD.gSubW, PD.rLenW, PD.rGetW, PD.rGetAt, PD.tMethW, PD.rSetdW, PD.tDispR, PD.tPairsD, PD.putAll, PD.tDisp1T, PD.gSeqD, PD.rListW, PD.tLenSetD, ↓PM.asSeq_sq, ↓PM.asDic_sq, ↓PM.srcD_sq, ↓PM.tdOf_sq, ↓PM.rIxD_sq, Option.map_some, Option.bind_some, PD.spFn, PD.spDraw, reduceIte, true_and, and_true, or_false, false_or, Bool.not_true, Bool.not_false, Bool.false_eq_true, List.length_cons, List.length_nil, List.set_cons_zero, List.set_cons_succ, PD.HD.set_same, PD.HD.tick_hp, PD.HD.tick_c, PD.HD.tick_dk, PD.HD.set_c, PD.HD.set_dk, $xs,*])
/-! PN2: rows and ends of machines as tuples or lists; dicts of states; met_from. -/
namespace PM
open PySem PySem.Spec PyProof.Rows PD
abbrev natD (s : Nat) : D := .int (s : Int)
def rowsD (b : Bool × Bool) (M : Mch) : D := seqD b.1 (M.rows.map fun r => seqD b.2 (r.map encC))
def endsD (b : Bool × Bool) (M : Mch) : D := seqD b.1 (M.ends.map .bl)
theorem row_at {M : Mch} (ok : M.Ok) (b : Bool × Bool) {s : Nat} (h : s < M.rows.length) : ∃ r, M.rows[s]? = some r ∧ r.length = M.L ∧ L2.atI (M.rows.map fun r => seqD b.2 (r.map encC)) (s : Int) = some (seqD b.2 (r.map encC)) ∧ ∀ c, (r[c]?).bind id = M.nx s c := by
  obtain ⟨r, h1, h2, h3⟩ := M.row ok h
  refine ⟨r, h1, h2, atI_map (f := fun r => seqD b.2 (r.map encC)) h1, fun c => ?_⟩
  unfold Mch.nx
  rw [h1]
  rfl
/-- a dict of states -/
def dnat (f : Nat → D) (ls : List Nat) : List (D × D) := ls.map fun s => (natD s, f s)
theorem getK_nat (f : Nat → D) (t : Nat) : ∀ ls : List Nat, getK (dnat f ls) (.inl (t : Int)) = if t ∈ ls then some (f t) else none
  | [] => rfl
  | x :: ls => by
    have ih := getK_nat f t ls
    show (if keyOf (natD x) = some (.inl (t : Int)) then some (f x) else getK (dnat f ls) _) = _
    by_cases e : x = t
    · subst e
      rw [if_pos (show keyOf (natD x) = some (.inl (x : Int)) from rfl), if_pos List.mem_cons_self]
    · have ne : ¬ keyOf (natD x) = some (.inl (t : Int)) := fun q => e (by
        have q' : (some (Sum.inl (x : Int)) : Option L2.Key) = some (Sum.inl (t : Int)) := q
        have := Sum.inl.inj (Option.some.inj q')
        omega)
      rw [if_neg ne, ih]
      by_cases h : t ∈ ls
      · rw [if_pos h, if_pos (List.mem_cons_of_mem _ h)]
      · rw [if_neg h, if_neg fun z => (List.mem_cons.mp z).elim (fun z => e z.symm) h]
theorem hasK_nat (f : Nat → D) (t : Nat) (ls : List Nat) : hasK (dnat f ls) (.inl (t : Int)) = decide (t ∈ ls) := by
  unfold hasK
  rw [getK_nat]
  by_cases h : t ∈ ls
  · rw [if_pos h]; simp [h]
  · rw [if_neg h]; simp [h]
theorem putD_new (f : Nat → D) {t : Nat} {ls : List Nat} (h : t ∉ ls) : putD (dnat f ls) (.inl (t : Int)) (f t) = dnat f (ls ++ [t]) := by
  unfold putD
  rw [hasK_nat]
  simp only [h, decide_false, Bool.false_eq_true, if_false]
  unfold dnat
  rw [List.map_append]
  rfl
theorem dnat_len (f : Nat → D) (ls : List Nat) : (dnat f ls).length = ls.length := by simp [dnat]
theorem encC_get {r : List (Option Nat)} {i : Nat} {d : D} (h : (r.map encC)[i]? = some d) : ∃ c, r[i]? = some c ∧ d = encC c := by
  rw [List.getElem?_map] at h
  obtain ⟨c, h1, rfl⟩ := Option.map_eq_some_iff.mp h
  exact ⟨c, h1, rfl⟩
theorem atI_nat' {f : Nat → D} {ls : List Nat} {i x : Nat} (h : ls[i]? = some x) : L2.atI (ls.map f) (i : Int) = some (f x) := atI_map h
/-! ### met_from -/
def spMet : SpD := fun ds S Q => ∃ (M : Mch) (b : Bool × Bool), ds = [rowsD b M] ∧ M.Ok ∧ ∀ ls : List Nat, ls.Nodup → (∀ s, s ∈ ls ↔ M.reach s) → Q (.lst (ls.map natD)) S
theorem met_len (ds : List D) (S : HD) (Q : QD) (h : spMet ds S Q) : ds.length = 1 := by
  obtain ⟨_, _, rfl, _⟩ := h
  rfl
structure MetI (M : Mch) (fs : List Nat) : Prop where
  nd : fs.Nodup
  z : 0 ∈ fs
  re : ∀ s ∈ fs, M.reach s
  lt : ∀ s ∈ fs, s < M.rows.length
theorem MetI.add {M : Mch} (ok : M.Ok) {fs : List Nat} (I : MetI M fs) {s c t : Nat} (hs : s ∈ fs) (h : M.nx s c = some t) (hn : t ∉ fs) : MetI M (fs ++ [t]) where
  nd := by
    rw [List.nodup_append]
    exact ⟨I.nd, by simp, fun a ha b hb e => hn (by rw [List.mem_singleton.mp hb] at e; exact e ▸ ha)⟩
  z := List.mem_append_left _ I.z
  re := fun x hx => (List.mem_append.mp hx).elim (I.re x) fun e => by rw [List.mem_singleton.mp e]; exact reach_nx (I.re s hs) h
  lt := fun x hx => (List.mem_append.mp hx).elim (I.lt x) fun e => by rw [List.mem_singleton.mp e]; exact M.nx_lt ok h
theorem met_ok (ds : List D) (S : HD) (Q : QD) (h : spMet ds S Q) : rd_met_from (ends Q) (pad 5 ds) S := by
  obtain ⟨M, b, rfl, ok, q⟩ := h
  have n4 := ok.n4
  unfold rd_met_from
  refine seq_step fun N1 hN1 => ?_
  walk_at "rdx"
  refine ⟨by decide, fun p hp => ⟨by decide, fun r hr => hN1 _ _ ?_⟩⟩
  clear hN1 N1
  have ne : r ≠ p := fun e => by rw [e, HD.set_same] at hr; cases hr
  have hr0 : S.hp r = none := by rw [HD.set_ne ne] at hr; exact hr
  refine seq_step fun N1 hN1 => ?_
  let I : Nat → SD → HD → Prop := fun m σ S' => ∃ (fs : List Nat) (at' : Nat) (v4 : Option D), σ = [some (rowsD b M), some (.ref p), some (.ref r), some (natD at'), v4] ∧ S'.hp p = some (.lst (fs.map natD)) ∧ S'.hp r = some (.dic (dnat (fun _ => .bl true) fs)) ∧ Up 0 S S' ∧
    MetI M fs ∧ at' ≤ fs.length ∧ (∀ i s c t, i < at' → fs[i]? = some s → M.nx s c = some t → t ∈ fs) ∧ m = M.rows.length - at'
  refine while_go I (n := M.rows.length) (fun m σ S' N ⟨fs, at', v4, e1, e2, e3, u, J, hat, hcl, em⟩ k => ?_) ⟨[0], 0, none, rfl, ?_, ?_, ((Up.refl S).new hp).new hr, ⟨by simp, by simp, fun s hs => by rw [List.mem_singleton.mp hs]; exact reach_0 M, fun s hs => by rw [List.mem_singleton.mp hs]; exact ok.n1⟩, Nat.zero_le _, fun i s c t hi => absurd hi (Nat.not_lt_zero _), rfl⟩
  · rw [HD.set_ne (Ne.symm ne), HD.set_same]; rfl
  · rw [HD.set_same]; rfl
  · subst e1
    generalize hb1 : (iAnyD _ : TID) = ti
    generalize hb2 : (sIfD _ _ _ : TSD) = tb
    walk_at "rdx"
    simp only [e2, List.length_map]
    by_cases hlt : at' < fs.length
    · have hx : fs[at']? = some fs[at'] := by simp [hlt]
      have hs := List.getElem_mem hlt
      have hsl := J.lt _ hs
      obtain ⟨row, r1, r2, r3, r4⟩ := row_at ok b hsl
      have e4 := atI_nat' (f := natD) hx
      have hl' : decide (((at' : Nat) : Int) < ((fs.length : Nat) : Int)) = true := decide_eq_true (by omega)
      simp only [hl', if_true]
      subst hb1 hb2
      unfold rowsD
      simp_all only [e2, e4, r3]
      refine any_sq fun hz => ?_
      refine loopD_go (fun i σ S2 => ∃ (gs : List Nat) (v4 : Option D), σ = [some (rowsD b M), some (.ref p), some (.ref r), some (natD at'), v4] ∧ S2.hp p = some (.lst ((fs ++ gs).map natD)) ∧ S2.hp r = some (.dic (dnat (fun _ => .bl true) (fs ++ gs))) ∧ Up 0 S S2 ∧ MetI M (fs ++ gs) ∧ ∀ c t, c < i → M.nx fs[at'] c = some t → t ∈ fs ++ gs)
        ⟨[], v4, rfl, by rw [List.append_nil]; exact e2, by rw [List.append_nil]; exact e3, u, by rw [List.append_nil]; exact J, fun c t hc => absurd hc (Nat.not_lt_zero _)⟩
        (fun i d σ S2 N2 hi ⟨gs, v4, f1, f2, f3, f4, f5, f6⟩ k2 => ⟨trivial, ?_⟩) fun σ S2 ⟨gs, v4, f1, f2, f3, f4, f5, f6⟩ => ⟨trivial, ?_⟩
      · subst f1
        obtain ⟨c, hc, rfl⟩ := encC_get hi
        have hnx : M.nx fs[at'] i = c := by rw [← r4, hc]; rfl
        have keepI : (∀ t, c = some t → t ∈ fs ++ gs) → ∀ c' t, c' < i + 1 → M.nx fs[at'] c' = some t → t ∈ fs ++ gs := fun ht c' t hc' hn => by
          by_cases hci : c' = i
          · subst hci
            rw [hnx] at hn
            exact ht t hn
          · exact f6 c' t (by omega) hn
        cases c with
        | none =>
          walk_at "rdx"
          simp only [encC, isN, Bool.not_true, Bool.false_eq_true, if_false]
          exact k2 _ _ ⟨gs, _, rfl, f2, f3, f4, f5, keepI fun t h => (by cases h)⟩
        | some t =>
          walk_at "rdx"
          simp only [encC, isN, Bool.not_false, if_true, f3, hasK_nat]
          by_cases ht : t ∈ fs ++ gs
          · simp only [ht, decide_true, Bool.not_true, Bool.false_eq_true, if_false]
            exact k2 _ _ ⟨gs, _, rfl, f2, f3, f4, f5, keepI fun t' h => by cases h; exact ht⟩
          · simp only [ht, decide_false, Bool.not_false, if_true]
            have J2 := MetI.add ok f5 (s := fs[at']) (List.mem_append_left _ hs) hnx ht
            have hl2 := lt_len f5.nd f5.lt
            have f2' : (S2.set r (.dic (putD (dnat (fun _ => .bl true) (fs ++ gs)) (.inl (t : Int)) (.bl true)))).hp p = some (.lst ((fs ++ gs).map natD)) := by rw [HD.set_ne (Ne.symm ne)]; exact f2
            simp only [dnat_len, f2', List.length_map]
            refine ⟨by omega, ⟨_, rfl⟩, by omega, k2 _ _ ⟨gs ++ [t], _, rfl, ?_, ?_, (f4.set hr0).set hp, ?_, ?_⟩⟩
            · rw [HD.set_same]; simp
            · rw [HD.set_ne ne, HD.set_same, putD_new _ ht, List.append_assoc]
            · rw [← List.append_assoc]; exact J2
            · intro c' t' hc' hn
              by_cases hci : c' = i
              · subst hci
                rw [hnx] at hn
                cases hn
                simp
              · rw [← List.append_assoc]; exact List.mem_append_left _ (f6 c' t' (by omega) hn)
      · subst f1
        walk_at "rdx"
        refine k (M.rows.length - (at' + 1)) _ _ ?_ ⟨fs ++ gs, at' + 1, _, rfl, f2, f3, f4, f5, by simp; omega, ?_, rfl⟩
        · have hl2 := lt_len J.nd J.lt
          omega
        · intro i s c t hi hs' hn
          by_cases hia : i < at'
          · rw [List.getElem?_append_left (by omega)] at hs'
            exact List.mem_append_left _ (hcl i s c t hia hs' hn)
          · have : i = at' := by omega
            subst this
            rw [List.getElem?_append_left hlt, hx] at hs'
            cases hs'
            have hc := nx_c ok hn
            exact f6 c t (by rw [List.length_map]; omega) hn
    · have hl' : decide (((at' : Nat) : Int) < ((fs.length : Nat) : Int)) = false := decide_eq_false (by omega)
      simp only [hl', Bool.false_eq_true, if_false]
      refine hN1 _ _ ?_
      walk_at "rdx"
      refine fin.frz e2 ⟨fun a o h => ?_, u.c, u.dk.symm⟩ (q fs J.nd fun s => ⟨J.re s, fun ⟨w, hw⟩ => ?_⟩)
      · have ne : a ≠ p := fun e => by rw [e, hp] at h; cases h
        simp only [HD.del, ne, if_false]
        exact u.hp a o h
      · refine reach_in (P := fun s => s ∈ fs) J.z (fun s c t hs hn => ?_) w 0 s J.z hw
        obtain ⟨i, hi⟩ := List.mem_iff_getElem?.mp hs
        have := (List.getElem?_eq_some_iff.mp hi).1
        exact hcl i s c t (by omega) hi hn
end PM
/-! PN3: living. -/
namespace PM
open PySem PySem.Spec PyProof.Rows PD
theorem fin_lt {M : Mch} (ok : M.Ok) {s : Nat} (h : M.fin s = true) : s < M.rows.length := by
  rw [← ok.en]
  unfold Mch.fin at h
  apply Nat.lt_of_not_le
  intro z
  rw [List.getElem?_eq_none z] at h
  cases h
/-- lists held in a list -/
structure Bef (S0 S' : HD) (ps : List Addr) (B : Nat → List Nat) : Prop where
  at' : ∀ j p, ps[j]? = some p → S'.hp p = some (.lst ((B j).map natD))
  nd : ps.Nodup
  fr : ∀ p ∈ ps, S0.hp p = none
theorem Bef.keep {S0 S' S2 : HD} {ps : List Addr} {B : Nat → List Nat} (b : Bef S0 S' ps B) (h : ∀ p o, S'.hp p = some o → S2.hp p = some o) : Bef S0 S2 ps B := ⟨fun j p e => h p _ (b.at' j p e), b.nd, b.fr⟩
theorem Bef.ne {S0 S' : HD} {ps : List Addr} {B : Nat → List Nat} (b : Bef S0 S' ps B) {q : Addr} (h : S'.hp q = none ∨ ∃ kds, S'.hp q = some (.dic kds)) {j : Nat} {p : Addr} (e : ps[j]? = some p) : p ≠ q := fun z => by
  have := b.at' j p e
  rw [z] at this
  rcases h with h | ⟨_, h⟩ <;> rw [this] at h <;> cases h
theorem Bef.setq {S0 S' : HD} {ps : List Addr} {B : Nat → List Nat} (b : Bef S0 S' ps B) {q : Addr} {o : OD} (h : ∀ p ∈ ps, p ≠ q) : Bef S0 (S'.set q o) ps B := ⟨fun j p e => by rw [HD.set_ne (h p (List.mem_of_getElem? e))]; exact b.at' j p e, b.nd, b.fr⟩
theorem Bef.add {S0 S' : HD} {ps : List Addr} {B : Nat → List Nat} (b : Bef S0 S' ps B) {t s : Nat} {p : Addr} (e : ps[t]? = some p) : Bef S0 (S'.set p (.lst ((B t).map natD ++ [natD s]))) ps (fun j => if j = t then B t ++ [s] else B j) where
  at' := fun j p' e' => by
    by_cases h : j = t
    · subst h
      rw [e] at e'
      cases e'
      rw [HD.set_same, if_pos rfl, List.map_append]
      rfl
    · have ne : p' ≠ p := fun z => by
        subst z
        exact h ((List.getElem?_inj (List.getElem?_eq_some_iff.mp e').1 b.nd).mp (e'.trans e.symm))
      rw [HD.set_ne ne, if_neg h]
      exact b.at' j p' e'
  nd := b.nd
  fr := b.fr
theorem nodup_snoc {α : Type} {xs : List α} {x : α} (h : xs.Nodup) (hn : x ∉ xs) : (xs ++ [x]).Nodup := by
  rw [List.nodup_append]
  exact ⟨h, by simp, fun a ha b hb e => hn (by rw [List.mem_singleton.mp hb] at e; exact e ▸ ha)⟩
theorem nil_or_snoc {α : Type} (xs : List α) : xs = [] ∨ ∃ ys y, xs = ys ++ [y] := by
  rcases List.eq_nil_or_concat xs with h | ⟨ys, y, h⟩
  · exact .inl h
  · exact .inr ⟨ys, y, by rw [h, List.concat_eq_append]⟩
def spLiv : SpD := fun ds S Q => ∃ (M : Mch) (b : Bool × Bool), ds = [rowsD b M, endsD b M] ∧ M.Ok ∧ ∀ ls : List Nat, ls.Nodup → (∀ s, s ∈ ls ↔ M.live s) → Q (.dic (dnat (fun _ => .bl true) ls)) S
theorem liv_len (ds : List D) (S : HD) (Q : QD) (h : spLiv ds S Q) : ds.length = 2 := by
  obtain ⟨_, _, rfl, _⟩ := h
  rfl
def predsTo (M : Mch) (i k : Nat) (B : Nat → List Nat) : Prop := (∀ j s, s ∈ B j ↔ (s < i ∧ ∃ c, M.nx s c = some j) ∨ (s = i ∧ ∃ c, c < k ∧ M.nx i c = some j)) ∧ ∀ j, (B j).length ≤ 3 * i + k
theorem preds_0 (M : Mch) : predsTo M 0 0 (fun _ => []) := ⟨fun j s => by simp, fun j => by simp⟩
theorem preds_row {M : Mch} (ok : M.Ok) {i : Nat} {B : Nat → List Nat} (h : predsTo M i M.L B) : predsTo M (i + 1) 0 B := by
  have l3 := ok.l3
  refine ⟨fun j s => ?_, fun j => by have := h.2 j; omega⟩
  rw [h.1]
  constructor
  · rintro (⟨h1, h2⟩ | ⟨rfl, c, _, h2⟩)
    · exact .inl ⟨by omega, h2⟩
    · exact .inl ⟨by omega, c, h2⟩
  · rintro (⟨h1, c, h2⟩ | ⟨_, c, hc, _⟩)
    · by_cases e : s = i
      · subst e
        exact .inr ⟨rfl, c, nx_c ok h2, h2⟩
      · exact .inl ⟨by omega, c, h2⟩
    · omega
theorem preds_skip {M : Mch} {i k : Nat} {B : Nat → List Nat} (h : predsTo M i k B) (e : M.nx i k = none) : predsTo M i (k + 1) B := by
  refine ⟨fun j s => ?_, fun j => by have := h.2 j; omega⟩
  rw [h.1]
  constructor
  · rintro (h1 | ⟨h1, c, hc, h2⟩)
    · exact .inl h1
    · exact .inr ⟨h1, c, by omega, h2⟩
  · rintro (h1 | ⟨h1, c, hc, h2⟩)
    · exact .inl h1
    · by_cases z : c = k
      · subst z
        rw [e] at h2
        cases h2
      · exact .inr ⟨h1, c, by omega, h2⟩
theorem preds_add {M : Mch} {i k t : Nat} {B : Nat → List Nat} (h : predsTo M i k B) (e : M.nx i k = some t) : predsTo M i (k + 1) (fun j => if j = t then B t ++ [i] else B j) := by
  refine ⟨fun j s => ?_, fun j => ?_⟩
  · have key : (s ∈ if j = t then B t ++ [i] else B j) ↔ s ∈ B j ∨ (j = t ∧ s = i) := by
      by_cases hj : j = t
      · subst hj; simp
      · simp [hj]
    rw [key, h.1]
    constructor
    · rintro ((h1 | ⟨h1, c, hc, h2⟩) | ⟨rfl, rfl⟩)
      · exact .inl h1
      · exact .inr ⟨h1, c, by omega, h2⟩
      · exact .inr ⟨rfl, k, by omega, e⟩
    · rintro (h1 | ⟨h1, c, hc, h2⟩)
      · exact .inl (.inl h1)
      · by_cases z : c = k
        · subst z
          rw [e] at h2
          cases h2
          exact .inr ⟨rfl, h1⟩
        · exact .inl (.inr ⟨h1, c, by omega, h2⟩)
  · have h1 := h.2 j
    have h2 := h.2 t
    show (if j = t then B t ++ [i] else B j).length ≤ _
    split
    · rw [List.length_append, List.length_singleton]; omega
    · omega
structure LivI (M : Mch) (fd wt : List Nat) : Prop where
  nd : fd.Nodup
  lv : ∀ s ∈ fd, s < M.rows.length ∧ M.live s
  fi : ∀ s, M.fin s = true → s ∈ fd
  sub : ∀ s ∈ wt, s ∈ fd
  cl : ∀ s ∈ fd, s ∈ wt ∨ ∀ r c, M.nx r c = some s → r ∈ fd
  len : wt.length ≤ fd.length
theorem liv_ok (ds : List D) (S : HD) (Q : QD) (h : spLiv ds S Q) : rd_living (ends Q) (pad 9 ds) S := by
  obtain ⟨M, b, rfl, ok, q⟩ := h
  have n4 := ok.n4
  have hsl : (sizeLine : Nat) = 16777216 := rfl
  unfold rd_living
  -- before = [[] for row in rows]
  refine seq_step fun N1 hN1 => ?_
  generalize hg4 : gNameD 4 = g4
  generalize hte : tLstR tNilD = te
  unfold rowsD
  walk_at "rdx"
  subst hg4 hte
  refine any_sq fun hz => ⟨hz, lcD_go (fun i acc S' => ∃ ps : List Addr, acc = ps.map .ref ∧ ps.length = i ∧ Bef S S' ps (fun _ => []) ∧ Up 0 S S') ⟨[], rfl, rfl, ⟨fun j p e => (by simp at e), List.nodup_nil, fun p hp => (by cases hp)⟩, .refl S⟩
    (fun i d acc S' N hi ⟨ps, e1, e2, b1, u1⟩ k => ⟨trivial, ?_⟩) fun acc S' ⟨ps, e1, e2, b1, u1⟩ => ⟨trivial, hN1 _ _ ?_⟩⟩
  · walk_at "rdx"
    refine ⟨by decide, fun p hp => k _ _ ⟨ps ++ [p], ?_, by rw [List.length_append, e2]; rfl, ?_, u1.new hp⟩⟩
    · rw [e1, List.map_append]; rfl
    · have pn : p ∉ ps := fun hm => by
        obtain ⟨j, hj⟩ := List.mem_iff_getElem?.mp hm
        rw [b1.at' j p hj] at hp
        cases hp
      refine ⟨fun j p' e => ?_, nodup_snoc b1.nd pn, fun p' hp' => ?_⟩
      · by_cases hj : j < ps.length
        · rw [List.getElem?_append_left hj] at e
          have ne : p' ≠ p := fun z => pn (z ▸ List.mem_of_getElem? e)
          rw [HD.set_ne ne]
          exact b1.at' j p' e
        · rw [List.getElem?_append_right (by omega)] at e
          have hm := List.mem_of_getElem? e
          rw [List.mem_singleton.mp hm, HD.set_same]
          rfl
      · rcases List.mem_append.mp hp' with h | h
        · exact b1.fr p' h
        · rw [List.mem_singleton.mp h]
          exact u1.none hp
  clear hN1 N1
  rw [List.length_map] at e2
  subst e1
  -- the moves
  refine seq_step fun N1 hN1 => ?_
  generalize hg : (gTupD 2 _ : TGD) = g
  generalize hB : (sForD (iAnyD _) _ _ : TSD) = T1
  walk_at "rdx"
  subst hg hB
  refine loopD_go (fun i σ S2 => ∃ (v3 v4 v5 : Option D) (B : Nat → List Nat), σ = [some (rowsD b M), some (endsD b M), some (.lst (ps.map .ref)), v3, v4, v5, none, none, none] ∧ Bef S S2 ps B ∧ Up 0 S S2 ∧ predsTo M i 0 B)
    ⟨none, none, none, _, rfl, b1, u1, preds_0 M⟩ (fun i d σ S2 N hi ⟨v3, v4, v5, B, f1, f2, f3, f4⟩ k => ⟨trivial, ?_⟩) fun σ S2 ⟨v3, v4, v5, B, f1, f2, f3, f4⟩ => ⟨trivial, hN1 _ _ ?_⟩
  · subst f1
    obtain ⟨x, hx, rfl⟩ := enumD_get hi
    rw [List.getElem?_map] at hx
    obtain ⟨row, hrow, rfl⟩ := Option.map_eq_some_iff.mp hx
    have hil : i < M.rows.length := (List.getElem?_eq_some_iff.mp hrow).1
    have hwd := ok.wd row (List.mem_of_getElem? hrow)
    have hnx : ∀ c, (row[c]?).bind id = M.nx i c := fun c => by unfold Mch.nx; rw [hrow]; rfl
    generalize hB : (sIfD _ _ _ : TSD) = T1
    walk_at "rdx"
    subst hB
    refine any_sq fun hz => ?_
    refine loopD_go (fun kk σ S3 => ∃ (v5 : Option D) (B : Nat → List Nat), σ = [some (rowsD b M), some (endsD b M), some (.lst (ps.map .ref)), some (natD i), some (seqD b.2 (row.map encC)), v5, none, none, none] ∧ Bef S S3 ps B ∧ Up 0 S S3 ∧ predsTo M i kk B)
      ⟨v5, B, rfl, f2, f3, f4⟩ (fun c d σ S3 N3 hc ⟨v5, B, h1, h2, h3, h4⟩ k3 => ⟨trivial, ?_⟩) fun σ S3 ⟨v5, B, h1, h2, h3, h4⟩ => ⟨trivial, ?_⟩
    · subst h1
      obtain ⟨t, ht, rfl⟩ := encC_get hc
      have hn : M.nx i c = t := by rw [← hnx, ht]; rfl
      cases t with
      | none =>
        walk_at "rdx"
        simp only [encC, isN, Bool.not_true, Bool.false_eq_true, if_false]
        exact k3 _ _ ⟨_, B, rfl, h2, h3, preds_skip h4 hn⟩
      | some t =>
        have htl := M.nx_lt ok hn
        have hp : ps[t]? = some ps[t] := by simp [e2, htl]
        have e3 := atI_map (f := D.ref) hp
        have e4 := h2.at' t _ hp
        have hl := h4.2 t
        have hcl : c < M.L := nx_c ok hn
        have l3 := ok.l3
        simp_all only [encC, isN, Bool.not_false, if_true, e3, e4, List.length_map]
        exact ⟨⟨_, rfl⟩, by omega, k3 _ _ ⟨_, _, rfl, h2.add hp, h3.set (h2.fr _ (List.getElem_mem _)), preds_add h4 hn⟩⟩
    · rw [List.length_map, hwd] at h4
      exact k _ _ ⟨_, _, _, B, h1, h2, h3, preds_row ok h4⟩
  clear hN1 N1
  subst f1
  rw [enumD_len, List.length_map] at f4
  have hB : ∀ j s, s ∈ B j ↔ ∃ c, M.nx s c = some j := fun j s => by
    rw [f4.1]
    constructor
    · rintro (⟨_, h⟩ | ⟨_, c, h, _⟩)
      · exact h
      · omega
    · rintro ⟨c, h⟩
      exact .inl ⟨nx_s h, c, h⟩
  -- found = {}
  refine seq_step fun N1 hN1 => ?_
  walk_at "rdx"
  intro q0 hq
  refine hN1 _ _ ?_
  clear hN1 N1
  have pq : ∀ p ∈ ps, p ≠ q0 := fun p hp => by
    obtain ⟨j, hj⟩ := List.mem_iff_getElem?.mp hp
    exact f2.ne (.inl hq) hj
  have hq0 := f3.none hq
  have b2 := f2.setq (o := .dic []) pq
  have u2 := f3.new (o := .dic []) hq
  -- the ends
  refine seq_step fun N1 hN1 => ?_
  generalize hg : (gTupD 2 _ : TGD) = g
  unfold endsD
  generalize hI : (sIfD _ _ _ : TSD) = T1
  walk_at "rdx"
  subst hg hI
  refine loopD_go (fun i σ S3 => ∃ (v3 v7 : Option D), σ = [some (rowsD b M), some (endsD b M), some (.lst (ps.map .ref)), v3, v4, v5, some (.ref q0), v7, none] ∧ Bef S S3 ps B ∧ Up 0 S S3 ∧ S3.hp q0 = some (.dic (dnat (fun _ => .bl true) ((List.range i).filter M.fin))))
    ⟨_, _, rfl, b2, u2, HD.set_same⟩ (fun i d σ S3 N hi ⟨v3, v7, h1, h2, h3, h4⟩ k => ⟨trivial, ?_⟩) fun σ S3 ⟨v3, v7, h1, h2, h3, h4⟩ => ⟨trivial, hN1 _ _ ?_⟩
  · subst h1
    obtain ⟨x, hx, rfl⟩ := enumD_get hi
    rw [List.getElem?_map] at hx
    obtain ⟨bb, hb, rfl⟩ := Option.map_eq_some_iff.mp hx
    have hfi : M.fin i = bb := by unfold Mch.fin; rw [hb]; rfl
    have hil : i < M.ends.length := (List.getElem?_eq_some_iff.mp hb).1
    have hen := ok.en
    have er : (List.range (i + 1)).filter M.fin = (List.range i).filter M.fin ++ if bb = true then [i] else [] := by
      rw [List.range_succ, List.filter_append, List.filter_cons, hfi]
      cases bb <;> rfl
    cases bb with
    | false =>
      walk_at "rdx"
      exact k _ _ ⟨_, _, rfl, h2, h3, by rw [er]; simpa using h4⟩
    | true =>
      have hni : i ∉ (List.range i).filter M.fin := fun h => by have := List.mem_range.mp (List.mem_filter.mp h).1; omega
      have hll : ((List.range i).filter M.fin).length ≤ i := by have := List.length_filter_le M.fin (List.range i); simpa using this
      simp_all only [h4, dnat_len]
      refine ⟨by omega, k _ _ ⟨_, _, rfl, h2.setq pq, h3.set hq0, ?_⟩⟩
      rw [HD.set_same]
      rw [er]
      exact congrArg (fun z => some (OD.dic z)) (putD_new (fun _ => D.bl true) hni)
  clear hN1 N1
  subst h1
  rw [enumD_len, List.length_map, ok.en] at h4
  generalize hfd0 : (List.range M.rows.length).filter M.fin = fd0 at h4
  have J0 : LivI M fd0 fd0 := by
    subst hfd0
    refine ⟨List.Pairwise.filter _ List.nodup_range, fun s hs => ?_, fun s hs => ?_, fun s hs => hs, fun s hs => .inl hs, Nat.le_refl _⟩
    · obtain ⟨z1, z2⟩ := List.mem_filter.mp hs
      exact ⟨List.mem_range.mp z1, [], z2⟩
    · exact List.mem_filter.mpr ⟨List.mem_range.mpr (fin_lt ok hs), hs⟩
  -- waiting = list(found)
  refine seq_step fun N1 hN1 => ?_
  have ekeys : (dnat (fun _ => D.bl true) fd0).map (·.1) = fd0.map natD := by unfold dnat; rw [List.map_map]; rfl
  simp_all only [h4, ekeys]
  intro w hw
  refine hN1 _ _ ?_
  clear hN1 N1
  have qw : q0 ≠ w := fun z => by rw [z, hw] at h4; cases h4
  have pw : ∀ p ∈ ps, p ≠ w := fun p hp => by
    obtain ⟨j, hj⟩ := List.mem_iff_getElem?.mp hp
    exact h2.ne (.inl hw) hj
  have hw0 := h3.none hw
  -- the stack
  refine seq_step fun N1 hN1 => ?_
  let I : Nat → SD → HD → Prop := fun m σ S' => ∃ (fd wt : List Nat) (v3 : Option D), σ = [some (rowsD b M), some (endsD b M), some (.lst (ps.map .ref)), v3, v4, v5, some (.ref q0), v7, some (.ref w)] ∧ Bef S S' ps B ∧ Up 0 S S' ∧
    S'.hp q0 = some (.dic (dnat (fun _ => .bl true) fd)) ∧ S'.hp w = some (.lst (wt.map natD)) ∧ LivI M fd wt ∧ m = 2 * (M.rows.length - fd.length) + wt.length
  refine while_go I (n := _) (fun m σ S' N ⟨fd, wt, v3, i1, i2, i3, i4, i5, J, em⟩ k => ?_) ⟨fd0, fd0, _, rfl, h2.setq pw, h3.set hw0, by rw [HD.set_ne qw]; exact h4, HD.set_same, J0, rfl⟩
  subst i1
  have hfl := lt_len J.nd fun s hs => (J.lv s hs).1
  rcases nil_or_snoc wt with rfl | ⟨wi, x, rfl⟩
  · simp_all only [i5, List.map_nil, List.isEmpty_nil, if_false]
    refine ⟨by decide, hN1 _ _ ?_⟩
    walk_at "rdx"
    refine fin.frzD i4 ⟨fun a o h => ?_, i3.c, i3.dk.symm⟩ (q fd J.nd fun s => ⟨fun hs => (J.lv s hs).2, fun ⟨v, hv⟩ => ?_⟩)
    · have ne : a ≠ q0 := fun e => by rw [e, hq0] at h; cases h
      simp only [HD.del, ne, if_false]
      exact i3.hp a o h
    · refine live_in (P := fun s => s ∈ fd) J.fi (fun s c t hn ht => ?_) v s hv
      rcases J.cl t ht with h | h
      · cases h
      · exact h s c hn
  · have hne : ((wi ++ [x]).map natD).isEmpty = false := by simp
    have hxfd := J.sub x (by simp)
    have hxl := (J.lv x hxfd).1
    have hp : ps[x]? = some ps[x] := by simp [e2, hxl]
    have e3 := atI_map (f := D.ref) hp
    have elast : ((wi ++ [x]).map natD).getLast? = some (natD x) := by simp
    have edrop : ((wi ++ [x]).map natD).dropLast = wi.map natD := by simp
    have pnw := pw _ (List.getElem_mem (by rw [e2]; exact hxl) : ps[x] ∈ ps)
    have e4 : (S'.set w (.lst (wi.map natD))).hp ps[x] = some (.lst ((B x).map natD)) := by rw [HD.set_ne pnw]; exact i2.at' x _ hp
    generalize hT : (sIfD _ _ _ : TSD) = T1
    simp_all only [i5, hne, elast, edrop, e3, e4, if_true]
    subst hT
    refine ⟨by decide, ⟨(wi ++ [x]).map natD, by simp only [asLst, i5]⟩, fun hz => ?_⟩
    have J2 : ∀ r, r ∈ B x → r < M.rows.length ∧ M.live r := fun r hr => by
      obtain ⟨c, hc⟩ := (hB x r).mp hr
      exact ⟨nx_s hc, live_nx hc (J.lv x hxfd).2⟩
    refine loopD_go (fun i σ S3 => ∃ (gs : List Nat) (v3 : Option D), σ = [some (rowsD b M), some (endsD b M), some (.lst (ps.map .ref)), v3, v4, v5, some (.ref q0), v7, some (.ref w)] ∧ Bef S S3 ps B ∧ Up 0 S S3 ∧
        S3.hp q0 = some (.dic (dnat (fun _ => .bl true) (fd ++ gs))) ∧ S3.hp w = some (.lst ((wi ++ gs).map natD)) ∧ (fd ++ gs).Nodup ∧ (∀ s ∈ gs, s ∈ B x) ∧ ∀ j r, j < i → (B x)[j]? = some r → r ∈ fd ++ gs)
      ⟨[], _, rfl, i2.setq pw, i3.set hw0, by rw [HD.set_ne qw, List.append_nil]; exact i4, by rw [HD.set_same, List.append_nil], by rw [List.append_nil]; exact J.nd, fun s hs => (by cases hs), fun j r hj => absurd hj (Nat.not_lt_zero _)⟩
      (fun i d σ S3 N3 hi ⟨gs, v3, j1, j2, j3, j4, j5, j6, j7, j8⟩ k3 => ⟨j2.at' x _ hp, ?_⟩) fun σ S3 ⟨gs, v3, j1, j2, j3, j4, j5, j6, j7, j8⟩ => ⟨j2.at' x _ hp, ?_⟩
    · subst j1
      rw [List.getElem?_map] at hi
      obtain ⟨r, hr, rfl⟩ := Option.map_eq_some_iff.mp hi
      have hrm := List.mem_of_getElem? hr
      have next : ∀ gs', (r ∈ fd ++ gs') → (∀ z, z ∈ fd ++ gs → z ∈ fd ++ gs') → ∀ j z, j < i + 1 → (B x)[j]? = some z → z ∈ fd ++ gs' := fun gs' h1 h2 j z hj hz => by
        by_cases e : j = i
        · subst e
          rw [hr] at hz
          cases hz
          exact h1
        · exact h2 z (j8 j z (by omega) hz)
      simp_all only [j4, hasK_nat]
      by_cases hm : r ∈ fd ++ gs
      · simp only [hm, decide_true, Bool.not_true, Bool.false_eq_true, if_false]
        exact k3 _ _ ⟨gs, _, rfl, j2, j3, j4, j5, j6, j7, next gs hm fun z h => h⟩
      · simp only [hm, decide_false, Bool.not_false, if_true]
        have hl := lt_len j6 fun s hs => (List.mem_append.mp hs).elim (fun h => (J.lv s h).1) fun h => (J2 s (j7 s h)).1
        have hwl := J.len
        rw [List.length_append, List.length_singleton] at hwl
        have j5' : (S3.set q0 (.dic (putD (dnat (fun _ => .bl true) (fd ++ gs)) (.inl (r : Int)) (.bl true)))).hp w = some (.lst ((wi ++ gs).map natD)) := by rw [HD.set_ne (Ne.symm qw)]; exact j5
        simp only [dnat_len, j5', List.length_map]
        rw [List.length_append] at hl
        refine ⟨by rw [List.length_append]; omega, ⟨_, rfl⟩, by rw [List.length_append]; omega, k3 _ _ ⟨gs ++ [r], _, rfl, (j2.setq pq).setq pw, (j3.set hq0).set hw0, ?_, ?_, ?_, ?_, next _ (by simp) fun z h => ?_⟩⟩
        · rw [HD.set_ne qw, HD.set_same, ← List.append_assoc]
          exact congrArg (fun z => some (OD.dic z)) (putD_new (fun _ => D.bl true) hm)
        · rw [HD.set_same]; simp
        · rw [← List.append_assoc]; exact nodup_snoc j6 hm
        · intro s hs
          rcases List.mem_append.mp hs with h | h
          · exact j7 s h
          · rw [List.mem_singleton.mp h]; exact hrm
        · rw [← List.append_assoc]; exact List.mem_append_left _ h
    · subst j1
      rw [List.length_map] at j8
      have all : ∀ r, r ∈ B x → r ∈ fd ++ gs := fun r hr => by
        obtain ⟨j, hj⟩ := List.mem_iff_getElem?.mp hr
        exact j8 j r (List.getElem?_eq_some_iff.mp hj).1 hj
      have J3 : LivI M (fd ++ gs) (wi ++ gs) := by
        refine ⟨j6, fun s hs => (List.mem_append.mp hs).elim (J.lv s) fun h => J2 s (j7 s h), fun s hs => List.mem_append_left _ (J.fi s hs), fun s hs => ?_, fun s hs => ?_, ?_⟩
        · rcases List.mem_append.mp hs with h | h
          · exact List.mem_append_left _ (J.sub s (List.mem_append_left _ h))
          · exact List.mem_append_right _ h
        · rcases List.mem_append.mp hs with h | h
          · rcases J.cl s h with h2 | h2
            · rcases List.mem_append.mp h2 with h3 | h3
              · exact .inl (List.mem_append_left _ h3)
              · rw [List.mem_singleton.mp h3]
                exact .inr fun r c hn => all r ((hB x r).mpr ⟨c, hn⟩)
            · exact .inr fun r c hn => List.mem_append_left _ (h2 r c hn)
          · exact .inl (List.mem_append_right _ h)
        · have := J.len
          simp only [List.length_append, List.length_singleton] at this ⊢
          omega
      have hl2 := lt_len J3.nd fun s hs => (J3.lv s hs).1
      rw [List.length_append] at hl2
      refine k (2 * (M.rows.length - (fd ++ gs).length) + (wi ++ gs).length) _ _ ?_ ⟨fd ++ gs, wi ++ gs, _, rfl, j2, j3, j4, j5, J3, rfl⟩
      rw [em]
      simp only [List.length_append, List.length_singleton]
      omega
end PM
/-! PN4: parted. -/
namespace PM
open PySem PySem.Spec PyProof.Rows PD
theorem dnat_congr {f g : Nat → D} {ls : List Nat} (h : ∀ s ∈ ls, f s = g s) : dnat f ls = dnat g ls := by
  unfold dnat
  exact List.map_congr_left fun s hs => by rw [h s hs]
/-- {s: f(s) for s in states} -/
theorem dcD_st {g : TGD} {tt : TTD} {tk tv : TED} {σ : SD} {keep : HD → Prop} {Q : List (D × D) → HD → Prop} {S : HD} (f : Nat → D) (hk : keep S) : ∀ (post pre : List Nat), (pre ++ post).Nodup →
    (∀ s ∈ post, ∀ (Q1 : D → D → HD → Prop) (Q0 : HD → Prop), Q1 (natD s) (f s) S → g (natD s) σ S fun σ2 S2 => tt σ2 S2 fun b S3 => if b = true then tk σ2 S3 fun y S4 => tv σ2 S4 fun z S5 => Q1 y z S5 else Q0 S3) →
    Q (dnat f (pre ++ post)) S → dcD g tt tk tv σ keep Q (post.map natD) (dnat f pre) S
  | [], pre, _, _, q => ⟨hk, by simpa using q⟩
  | s :: post, pre, hn, h, q => by
    have hp : s ∉ pre := fun hs => by
      rw [List.nodup_append] at hn
      exact hn.2.2 s hs s List.mem_cons_self rfl
    refine ⟨hk, h s List.mem_cons_self _ _ ?_⟩
    show dcD g tt tk tv σ keep Q (post.map natD) (putD (dnat f pre) (.inl (s : Int)) (f s)) S
    rw [putD_new f hp]
    have e : pre ++ s :: post = (pre ++ [s]) ++ post := by simp
    rw [e] at hn q
    exact dcD_st f hk post (pre ++ [s]) hn (fun t ht => h t (List.mem_cons_of_mem _ ht)) q
/-- what a cell's part is -/
def cellK (f : Nat → Nat) (st : List Nat) : Option Nat → NestedKey
  | none => .none
  | some t => if t ∈ st then .num (f t : Nat) else .none
def cellD (f : Nat → Nat) (st : List Nat) : Option Nat → D
  | none => .non
  | some t => if t ∈ st then natD (f t) else .non
theorem cellK_in {f : Nat → Nat} {st : List Nat} {t : Nat} (h : t ∈ st) : cellK f st (some t) = .num (f t : Nat) := if_pos h
theorem cellK_out {f : Nat → Nat} {st : List Nat} {t : Nat} (h : t ∉ st) : cellK f st (some t) = .none := if_neg h
theorem cellD_in {f : Nat → Nat} {st : List Nat} {t : Nat} (h : t ∈ st) : cellD f st (some t) = natD (f t) := if_pos h
theorem cellD_out {f : Nat → Nat} {st : List Nat} {t : Nat} (h : t ∉ st) : cellD f st (some t) = .non := if_neg h
def Mch.rowOf (M : Mch) (s : Nat) : List (Option Nat) := (M.rows[s]?).getD []
def mkD (M : Mch) (f : Nat → Nat) (st : List Nat) (s : Nat) : D := .tup (natD (f s) :: (M.rowOf s).map (cellD f st))
def mkK (M : Mch) (f : Nat → Nat) (st : List Nat) (s : Nat) : NestedKey := .tup (.num (f s : Nat) :: (M.rowOf s).map (cellK f st))
theorem cell_nk (f : Nat → Nat) (st : List Nat) (c : Option Nat) : nkOf (cellD f st c) = some (cellK f st c) := by
  cases c with
  | none => rfl
  | some t =>
    by_cases h : t ∈ st
    · rw [cellD_in h, cellK_in h]; rfl
    · rw [cellD_out h, cellK_out h]; rfl
theorem cells_nk (f : Nat → Nat) (st : List Nat) : ∀ r : List (Option Nat), nksOf (r.map (cellD f st)) = some (r.map (cellK f st))
  | [] => rfl
  | c :: r => by
    show ((nkOf (cellD f st c)).bind fun k => (nksOf (r.map (cellD f st))).map (k :: ·)) = _
    rw [cell_nk, cells_nk f st r]
    rfl
theorem mk_key (M : Mch) (f : Nat → Nat) (st : List Nat) (s : Nat) : keyT (mkD M f st s) = some (mkK M f st s) := by
  show (nksOf (natD (f s) :: (M.rowOf s).map (cellD f st))).map NestedKey.tup = _
  show (((nkOf (natD (f s))).bind fun k => (nksOf ((M.rowOf s).map (cellD f st))).map (k :: ·))).map NestedKey.tup = _
  rw [cells_nk]
  rfl
theorem mk_dep (M : Mch) (f : Nat → Nat) (st : List Nat) (s : Nat) : (mkK M f st s).depth ≤ 8 := by
  have key : ∀ r : List (Option Nat), NestedKey.depthAll (r.map (cellK f st)) = 0 := by
    intro r
    induction r with
    | nil => rfl
    | cons c r ih =>
      have : (cellK f st c).depth = 0 := by
        cases c with
        | none => rfl
        | some t =>
          by_cases h : t ∈ st
          · rw [cellK_in h]; rfl
          · rw [cellK_out h]; rfl
      show max ((cellK f st c).depth) (NestedKey.depthAll (r.map (cellK f st))) = 0
      rw [this, ih]
      rfl
  show max 0 (NestedKey.depthAll _) + 1 ≤ 8
  rw [key]
  decide
theorem rowOf_nx {M : Mch} (s c : Nat) : M.nx s c = ((M.rowOf s)[c]?).bind id := by
  unfold Mch.nx Mch.rowOf
  cases M.rows[s]? <;> simp
theorem rowOf_len {M : Mch} (ok : M.Ok) {s : Nat} (h : s < M.rows.length) : (M.rowOf s).length = M.L := by
  unfold Mch.rowOf
  simp only [List.getElem?_eq_getElem h, Option.getD_some]
  exact ok.wd _ (List.getElem_mem h)
theorem mk_iff {M : Mch} (ok : M.Ok) {f : Nat → Nat} {st : List Nat} {s t : Nat} (hs : s < M.rows.length) (ht : t < M.rows.length) : mkK M f st s = mkK M f st t ↔ f s = f t ∧ ∀ c, cellK f st (M.nx s c) = cellK f st (M.nx t c) := by
  have l1 := rowOf_len ok hs
  have l2 := rowOf_len ok ht
  unfold mkK
  constructor
  · intro h
    injection h with h
    injection h with h1 h2
    injection h1 with h1
    refine ⟨by omega, fun c => ?_⟩
    rw [rowOf_nx, rowOf_nx]
    by_cases hc : c < M.L
    · have := congrArg (·[c]?) h2
      simp only [List.getElem?_map] at this
      have e1 : (M.rowOf s)[c]? = some (M.rowOf s)[c] := by simp [l1, hc]
      have e2 : (M.rowOf t)[c]? = some (M.rowOf t)[c] := by simp [l2, hc]
      rw [e1, e2] at this ⊢
      exact Option.some.inj this
    · rw [List.getElem?_eq_none (by omega), List.getElem?_eq_none (by omega)]
  · rintro ⟨h1, h2⟩
    congr 2
    · rw [h1]
    · apply List.ext_getElem (by simp [l1, l2])
      intro c c1 c2
      simp only [List.length_map] at c1 c2
      have := h2 c
      rw [rowOf_nx, rowOf_nx] at this
      simpa [c1, c2] using this
/-- the places of the marks, as they are met -/
def plD (mk : Nat → D) (n : Nat) : List Nat → List (D × D)
  | [] => []
  | r :: rs => (mk r, natD n) :: plD mk (n + 1) rs
theorem plD_len (mk : Nat → D) : ∀ (rs : List Nat) (n : Nat), (plD mk n rs).length = rs.length
  | [], _ => rfl
  | r :: rs, n => by simp [plD, plD_len mk rs (n + 1)]
theorem plD_snoc (mk : Nat → D) (s : Nat) : ∀ (rs : List Nat) (n : Nat), plD mk n (rs ++ [s]) = plD mk n rs ++ [(mk s, natD (n + rs.length))]
  | [], n => rfl
  | r :: rs, n => by
    show (mk r, natD n) :: plD mk (n + 1) (rs ++ [s]) = _
    rw [plD_snoc mk s rs (n + 1)]
    simp only [List.length_cons]
    rw [show n + 1 + rs.length = n + (rs.length + 1) by omega]
    rfl
theorem getT_pl {mk : Nat → D} {nk : Nat → NestedKey} (h : ∀ r, nkOf (mk r) = some (nk r)) (k : NestedKey) : ∀ (rs : List Nat) (n : Nat), (getT (plD mk n rs) k = none ∧ ∀ r ∈ rs, nk r ≠ k) ∨ ∃ i r, getT (plD mk n rs) k = some (natD (n + i)) ∧ rs[i]? = some r ∧ nk r = k
  | [], _ => .inl ⟨rfl, fun _ h => nomatch h⟩
  | r :: rs, n => by
    by_cases e : nk r = k
    · exact .inr ⟨0, r, by simp [plD, getT, h, e], rfl, e⟩
    · have e1 : getT (plD mk n (r :: rs)) k = getT (plD mk (n + 1) rs) k := by
        simp only [plD, getT, h]
        exact if_neg fun q => e (Option.some.inj q)
      rcases getT_pl h k rs (n + 1) with ⟨h1, h2⟩ | ⟨i, r', h1, h2, h3⟩
      · exact .inl ⟨by rw [e1, h1], fun r' hr => (List.mem_cons.mp hr).elim (fun z => z ▸ e) (h2 r')⟩
      · exact .inr ⟨i + 1, r', by rw [e1, h1, show n + 1 + i = n + (i + 1) by omega], by simpa using h2, h3⟩
theorem pick {α : Type} {β : Type} {f : α → β} {st : List α} : ∀ l : List β, (∀ v ∈ l, ∃ s ∈ st, f s = v) → ∃ qs : List α, (∀ q ∈ qs, q ∈ st) ∧ qs.map f = l
  | [], _ => ⟨[], fun _ h => (nomatch h), rfl⟩
  | v :: l, h => by
    obtain ⟨s, h1, h2⟩ := h v List.mem_cons_self
    obtain ⟨qs, h3, h4⟩ := pick l fun v hv => h v (List.mem_cons_of_mem _ hv)
    exact ⟨s :: qs, fun q hq => (List.mem_cons.mp hq).elim (fun e => e ▸ h1) (h3 q), by rw [List.map_cons, h2, h4]⟩
theorem dist_ok (ns : List Int) : (dist ns).Nodup ∧ (∀ v, v ∈ dist ns ↔ v ∈ ns) := by
  have key : ∀ (ns acc : List Int), acc.Nodup → (ns.foldl (fun acc n => if acc.any (· == n) then acc else acc ++ [n]) acc).Nodup ∧ ∀ v, v ∈ ns.foldl (fun acc n => if acc.any (· == n) then acc else acc ++ [n]) acc ↔ v ∈ acc ∨ v ∈ ns := by
    intro ns
    induction ns with
    | nil => intro acc h; exact ⟨h, fun v => by simp⟩
    | cons n ns ih =>
      intro acc h
      rw [List.foldl_cons]
      by_cases hm : n ∈ acc
      · have e : (if acc.any (· == n) then acc else acc ++ [n]) = acc := if_pos (List.any_eq_true.mpr ⟨n, hm, by simp⟩)
        rw [e]
        obtain ⟨h1, h2⟩ := ih acc h
        refine ⟨h1, fun v => ?_⟩
        rw [h2, List.mem_cons]
        constructor
        · rintro (z | z)
          · exact .inl z
          · exact .inr (.inr z)
        · rintro (z | z | z)
          · exact .inl z
          · exact .inl (z ▸ hm)
          · exact .inr z
      · have e : (if acc.any (· == n) then acc else acc ++ [n]) = acc ++ [n] := if_neg fun z => by
          obtain ⟨y, hy, ey⟩ := List.any_eq_true.mp z
          exact hm (eq_of_beq ey ▸ hy)
        rw [e]
        obtain ⟨h1, h2⟩ := ih (acc ++ [n]) (nodup_snoc h hm)
        refine ⟨h1, fun v => ?_⟩
        rw [h2, List.mem_append, List.mem_singleton, List.mem_cons]
        constructor
        · rintro ((z | z) | z)
          · exact .inl z
          · exact .inr (.inl z)
          · exact .inr (.inr z)
        · rintro (z | z | z)
          · exact .inl (.inl z)
          · exact .inl (.inr z)
          · exact .inr z
  obtain ⟨h1, h2⟩ := key ns [] List.nodup_nil
  exact ⟨h1, fun v => by have := h2 v; simpa [dist] using this⟩
/-! ### the parts -/
structure Wit (st : List Nat) (f : Nat → Nat) (more : Nat) : Prop where
  ex : ∃ qs : List Nat, (∀ q ∈ qs, q ∈ st) ∧ (qs.map f).Nodup ∧ qs.length = more
theorem Wit.le {st : List Nat} {f : Nat → Nat} {more : Nat} (w : Wit st f more) : more ≤ st.length := by
  obtain ⟨qs, h1, h2, rfl⟩ := w.ex
  refine sub_len ?_ h1
  unfold List.Nodup at h2 ⊢
  rw [List.pairwise_map] at h2
  exact h2.imp fun h e => h (by rw [e])
structure Closed (M : Mch) (st : List Nat) : Prop where
  nd : st.Nodup
  lt : ∀ s ∈ st, s < M.rows.length
  lv : ∀ s ∈ st, M.live s
  cl : ∀ s ∈ st, ∀ c t, M.nx s c = some t → M.live t → t ∈ st
structure Sorts (M : Mch) (st : List Nat) (f : Nat → Nat) (more : Nat) : Prop where
  wit : Wit st f more
  fin : ∀ s ∈ st, ∀ t ∈ st, f s = f t → M.fin s = M.fin t
  req : ∀ s ∈ st, ∀ t ∈ st, M.req s t → f s = f t
structure Finer (M : Mch) (st : List Nat) (p : Nat → Nat) (many : Nat) (f : Nat → Nat) (more : Nat) : Prop where
  wit : Wit st p many
  iff : ∀ s ∈ st, ∀ t ∈ st, f s = f t ↔ p s = p t ∧ ∀ c, cellK p st (M.nx s c) = cellK p st (M.nx t c)
  lt : ∀ s ∈ st, f s < more
theorem cell_req {M : Mch} {st : List Nat} (C : Closed M st) {f : Nat → Nat} (hf : ∀ s ∈ st, ∀ t ∈ st, M.req s t → f s = f t) {s t : Nat} (hs : s ∈ st) (ht : t ∈ st) (h : M.req s t) (c : Nat) : cellK f st (M.nx s c) = cellK f st (M.nx t c) := by
  have half : ∀ {s t : Nat}, s ∈ st → t ∈ st → M.req s t → ∀ s', M.nx s c = some s' → s' ∈ st → ∃ t', M.nx t c = some t' ∧ t' ∈ st ∧ M.req s' t' := by
    intro s t hs ht h s' hn hm
    obtain ⟨w, hw⟩ := C.lv s' hm
    have : M.accF t (c :: w) = true := by rw [← h, accF_cons, hn]; exact hw
    obtain ⟨t', h1, h2⟩ := live_next this
    refine ⟨t', h1, C.cl t ht c t' h1 ⟨w, h2⟩, fun v => ?_⟩
    have := h (c :: v)
    rw [accF_cons, accF_cons, hn, h1] at this
    exact this
  have none_of : ∀ {s t : Nat}, s ∈ st → t ∈ st → M.req s t → (∀ s', M.nx s c = some s' → s' ∉ st) → ∀ t', M.nx t c = some t' → t' ∉ st := by
    intro s t hs ht h hno t' hn hm
    obtain ⟨s', h1, h2, _⟩ := half ht hs (fun w => (h w).symm) t' hn hm
    exact hno s' h1 h2
  have nn : ∀ {x : Option Nat}, (∀ t, x = some t → t ∉ st) → cellK f st x = .none := by
    intro x hx
    cases x with
    | none => rfl
    | some t => exact if_neg (hx t rfl)
  by_cases hex : ∃ s', M.nx s c = some s' ∧ s' ∈ st
  · obtain ⟨s', h1, h2⟩ := hex
    obtain ⟨t', h3, h4, h5⟩ := half hs ht h s' h1 h2
    rw [h1, h3]
    rw [cellK_in h2, cellK_in h4, hf s' h2 t' h4 h5]
  · have hno : ∀ s', M.nx s c = some s' → s' ∉ st := fun s' h1 h2 => hex ⟨s', h1, h2⟩
    rw [nn hno, nn (none_of hs ht h hno)]
/-- no finer: the parts are the residuals -/
theorem done {M : Mch} {st : List Nat} (C : Closed M st) {p f : Nat → Nat} {many more : Nat} (F : Finer M st p many f more) (J : Sorts M st f more) (hle : more ≤ many) : ∀ s ∈ st, ∀ t ∈ st, f s = f t ↔ M.req s t := by
  obtain ⟨qs, q1, q2, q3⟩ := F.wit.ex
  have stab := stable q1 q2 q3 F.lt (fun s hs t ht e => ((F.iff s hs t ht).mp e).1) hle
  have key : ∀ (w : List Nat) (s t : Nat), s ∈ st → t ∈ st → f s = f t → M.accF s w = M.accF t w := by
    intro w
    induction w with
    | nil => intro s t hs ht e; rw [accF_nil, accF_nil]; exact J.fin s hs t ht e
    | cons c w ih =>
      intro s t hs ht e
      have hc := ((F.iff s hs t ht).mp e).2 c
      have dead : ∀ {s s'}, s ∈ st → M.nx s c = some s' → s' ∉ st → M.accF s' w = false := by
        intro s s' hs hn hm
        cases h : M.accF s' w with
        | false => rfl
        | true => exact (hm (C.cl s hs c s' hn ⟨w, h⟩)).elim
      rw [accF_cons, accF_cons]
      cases h1 : M.nx s c with
      | none =>
        cases h2 : M.nx t c with
        | none => rfl
        | some t' =>
          by_cases hm : t' ∈ st
          · rw [h1, h2] at hc
            rw [cellK_in hm] at hc
            cases hc
          · exact (dead ht h2 hm).symm
      | some s' =>
        by_cases hm : s' ∈ st
        · cases h2 : M.nx t c with
          | none =>
            rw [h1, h2] at hc
            rw [cellK_in hm] at hc
            cases hc
          | some t' =>
            rw [h1, h2] at hc
            rw [cellK_in hm] at hc
            by_cases hm' : t' ∈ st
            · rw [cellK_in hm'] at hc
              injection hc with hc
              exact ih s' t' hm hm' (stab s' hm t' hm' (by omega))
            · rw [cellK_out hm'] at hc
              cases hc
        · have d1 := dead hs h1 hm
          cases h2 : M.nx t c with
          | none => exact d1
          | some t' =>
            by_cases hm' : t' ∈ st
            · rw [h1, h2] at hc
              rw [cellK_out hm, cellK_in hm'] at hc
              cases hc
            · exact d1.trans (dead ht h2 hm').symm
  exact fun s hs t ht => ⟨fun e w => key w s t hs ht e, J.req s hs t ht⟩
end PM
end
section
local macro_rules | `(tactic| walk_at "rdx") => `(tactic| simp only [PD.pad, PD.gt_z, PD.gt_s, PD.st_z, PD.st_s, PD.sNextD, PD.sSeqD, PD.sBreakD, PD.sContD, PD.sDropD, PD.sRetD, PD.sRetND, PD.sIfD, PD.sNeverD, PD.sAsgD, PD.sPar2, PD.sPar3, PD.gNameD, PD.gNilD, PD.gConsD, PD.gTupD, PD.gSubD, PD.tNilD, PD.tConsD, PD.tTupD, PD.tLstV, PD.tLstR, PD.tBin, PD.tTst, PD.tAndD, PD.tOrD, PD.tNotD, PD.tIfD, PD.tAndV, PD.tOrV, PD.tNotV, PD.tUnD, PD.rNeg, PD.tCallD, PD.tSlot, PD.tCD, PD.tChainD, PD.rIsN, PD.rNotN, PD.rIsiD, PD.isi_non, PD.isi_bl, PD.isi_int, PD.isi_str, PD.isi_tup, PD.isi_lst, PD.isi_dic, PD.Ty.name, PD.rCmpI, PD.fLt, PD.fLe, PD.fGt, PD.fGe, PD.rAddD, PD.rSubD, PD.rFdivD, PD.rModD, PD.rPowD, PD.rMulD, PD.rAddR, PD.rMulR, PD.asSeq, PD.asLst, PD.rLenD, PD.rTupleD, PD.rListV, PD.rListR, PD.rIntD, PD.rBoolD, PD.rAbsD, PD.rIxD, PD.oNone, PD.oSome, PD.tSlD, PD.rSlD, PD.tRevTD, PD.rEqD, PD.rNeD, PD.nrm_non, PD.nrm_bl, PD.nrm_int, PD.nrm_str, PD.nrm_tup, PD.nrm_lst, PD.nrm_dic, PD.nrm_ref, PD.iSeqD, PD.iRng1D, PD.iRng2D, PD.sForD, PD.tLcV, PD.tLcR, PD.tYesD, PD.wipeD, PD.tMethL, PD.rAppD, PD.isRefL, PD.tDicV, PD.keyOf, PD.asDic, PD.srcD, PD.iAnyD, PD.iZipD, PD.iEnumD, PD.tDcV, PD.tDicR, PD.gSubX, PD.rSetX, PD.rIxX, PD.rInD, PD.rInX, PD.rInY, PD.rSumD, PD.tRevLD, PD.tRevX, PD.rSixD, PD.rJoinD, PD.tMethS, PD.rLixD, PD.rPopD, PD.rExtD, PD.tMethA, PD.rSetD, PD.rReprD, PD.eqk_int, PD.eqd_int, PD.eqk_str, PD.eqd_str, PD.eqk_lst0, PD.eqd_lst0, PD.eqk_tup0, PD.eqd_tup0, PD.tdOf, PD.rInW, PD.rIxW, PD.rSetW, PD.gSubW, PD.rLenW, PD.rGetW, PD.rGetAt, PD.tMethW, PD.rSetdW, PD.tDispR, PD.tPairsD, PD.putAll, PD.tDisp1T, PD.gSeqD, PD.rListW, PD.tLenSetD, ↓PM.asSeq_sq, ↓PM.asDic_sq, ↓PM.srcD_sq, ↓PM.tdOf_sq, ↓PM.rIxD_sq, Option.map_some, Option.bind_some, PD.spFn, PD.spDraw, reduceIte, true_and, and_true, or_false, false_or, Bool.not_true, Bool.not_false, Bool.false_eq_true, List.length_cons, List.length_nil, List.set_cons_zero, List.set_cons_succ, PD.HD.set_same, PD.HD.tick_hp, PD.HD.tick_c, PD.HD.tick_dk, PD.HD.set_c, PD.HD.set_dk])
local macro_rules | `(tactic| simp_all only [$xs,*]) => `(tactic| simp only [PD.pad, PD.gt_z, PD.gt_s, PD.st_z, PD.st_s, PD.sNextD, PD.sSeqD, PD.sBreakD, PD.sContD, PD.sDropD, PD.sRetD, PD.sRetND, PD.sIfD, PD.sNeverD, PD.sAsgD, PD.sPar2, PD.sPar3, PD.gNameD, PD.gNilD, PD.gConsD, PD.gTupD, PD.gSubD, PD.tNilD, PD.tConsD, PD.tTupD, PD.tLstV, PD.tLstR, PD.tBin, PD.tTst, PD.tAndD, PD.tOrD, PD.tNotD, PD.tIfD, PD.tAndV, PD.tOrV, PD.tNotV, PD.tUnD, PD.rNeg, PD.tCallD, PD.tSlot, PD.tCD, PD.tChainD, PD.rIsN, PD.rNotN, PD.rIsiD, PD.isi_non, PD.isi_bl, PD.isi_int, PD.isi_str, PD.isi_tup, PD.isi_lst, PD.isi_dic, PD.Ty.name, PD.rCmpI, PD.fLt, PD.fLe, PD.fGt, PD.fGe, PD.rAddD, PD.rSubD, PD.rFdivD, PD.rModD, PD.rPowD, PD.rMulD, PD.rAddR, PD.rMulR, PD.asSeq, PD.asLst, PD.rLenD, PD.rTupleD, PD.rListV, PD.rListR, PD.rIntD, PD.rBoolD, PD.rAbsD, PD.rIxD, PD.oNone, PD.oSome, PD.tSlD, PD.rSlD, PD.tRevTD, PD.rEqD, PD.rNeD, PD.nrm_non, PD.nrm_bl, PD.nrm_int, PD.nrm_str, PD.nrm_tup, PD.nrm_lst, PD.nrm_dic, PD.nrm_ref, PD.iSeqD, PD.iRng1D, PD.iRng2D, PD.sForD, PD.tLcV, PD.tLcR, PD.tYesD, PD.wipeD, PD.tMethL, PD.rAppD, PD.isRefL, PD.tDicV, PD.keyOf, PD.asDic, PD.srcD, PD.iAnyD, PD.iZipD, PD.iEnumD, PD.tDcV, PD.tDicR, PD.gSubX, PD.rSetX, PD.rIxX, PD.rInD, PD.rInX, PD.rInY, PD.rSumD, PD.tRevLD, PD.tRevX, PD.rSixD, PD.rJoinD, PD.tMethS, PD.rLixD, PD.rPopD, PD.rExtD, PD.tMethA, PD.rSetD, PD.rReprD, PD.eqk_int, PD.eqd_int, PD.eqk_str, PD.eqd_str, PD.eqk_lst0, PD.eqd_lst0, PD.eqk_tup0, PD.eqd_tup0, PD.tdOf, PD.rInW, PD.rIxW, PD.rSetW, PD.gSubW, PD.rLenW, PD.rGetW, PD.rGetAt, PD.tMethW, PD.rSetdW, PD.tDispR, PD.tPairsD, PD.putAll, PD.tDisp1T, PD.gSeqD, PD.rListW, PD.tLenSetD, ↓PM.asSeq_sq, ↓PM.asDic_sq, ↓PM.srcD_sq, ↓PM.tdOf_sq, ↓PM.rIxD_sq, Option.map_some, Option.bind_some, PD.spFn, PD.spDraw, reduceIte, true_and, and_true, or_false, false_or, Bool.not_true, Bool.not_false, Bool.false_eq_true, List.length_cons, List.length_nil, List.set_cons_zero, List.set_cons_succ, PD.HD.set_same, PD.HD.tick_hp, PD.HD.tick_c, PD.HD.tick_dk, PD.HD.set_c, PD.HD.set_dk, $xs,*])
/-! PN5: parted, the walk. -/
namespace PM
open PySem PySem.Spec PyProof.Rows PD
theorem _root_.PD.Up.del {n : Nat} {S S' : HD} {p : Addr} (h : Up n S S') (hp : S.hp p = none) : Up n S (S'.del p) := ⟨fun a o e => by
  have ne : a ≠ p := fun z => by rw [z, hp] at e; cases e
  simp only [HD.del, ne, if_false]
  exact h.hp a o e, h.c, h.dk⟩
def spParted : SpD := fun ds S Q => ∃ (M : Mch) (b : Bool × Bool) (st : List Nat), ds = [rowsD b M, endsD b M, .lst (st.map natD)] ∧ M.Ok ∧ Closed M st ∧ st ≠ [] ∧
  ∀ f : Nat → Nat, (∀ s ∈ st, ∀ t ∈ st, f s = f t ↔ M.req s t) → Q (.dic (dnat (fun s => natD (f s)) st)) S
theorem parted_len (ds : List D) (S : HD) (Q : QD) (h : spParted ds S Q) : ds.length = 3 := by
  obtain ⟨_, _, _, rfl, _⟩ := h
  rfl
def cellOf (kds : List (D × D)) : D → Option D
  | .non => some .non
  | .int t => some ((getK kds (.inl t)).getD .non)
  | _ => none
theorem cells_of (f : Nat → Nat) (st : List Nat) (r : List (Option Nat)) : (r.map encC).filterMap (cellOf (dnat (fun s => natD (f s)) st)) = r.map (cellD f st) := by
  rw [List.filterMap_map, ← List.filterMap_eq_map]
  apply congrArg (fun g => List.filterMap g r)
  funext c
  cases c with
  | none => rfl
  | some t =>
    show some ((getK (dnat (fun s => natD (f s)) st) (.inl (t : Int))).getD .non) = some (cellD f st (some t))
    rw [getK_nat]
    by_cases h : t ∈ st
    · rw [if_pos h, cellD_in h]; rfl
    · rw [if_neg h, cellD_out h]; rfl
theorem end_at {M : Mch} (ok : M.Ok) {s : Nat} (h : s < M.rows.length) : L2.atI (M.ends.map D.bl) (s : Int) = some (.bl (M.fin s)) := atI_map (fin_at ok h)
structure Marks (M : Mch) (f : Nat → Nat) (st pre : List Nat) (g : Nat → Nat) (reps : List Nat) : Prop where
  nd : (reps.map (mkK M f st)).Nodup
  sub : ∀ r ∈ reps, r ∈ st
  at' : ∀ s ∈ pre, ∃ r, reps[g s]? = some r ∧ mkK M f st r = mkK M f st s
theorem Marks.ix {M : Mch} {f : Nat → Nat} {st pre : List Nat} {g : Nat → Nat} {reps : List Nat} (J : Marks M f st pre g reps) {s t : Nat} (hs : s ∈ pre) (ht : t ∈ pre) : g s = g t ↔ mkK M f st s = mkK M f st t := by
  obtain ⟨r, h1, h2⟩ := J.at' s hs
  obtain ⟨r', h3, h4⟩ := J.at' t ht
  constructor
  · intro e
    rw [e, h3] at h1
    cases h1
    rw [← h2, h4]
  · intro e
    have e1 : (reps.map (mkK M f st))[g s]? = some (mkK M f st s) := by rw [List.getElem?_map, h1, ← h2]; rfl
    have e2 : (reps.map (mkK M f st))[g t]? = some (mkK M f st s) := by rw [List.getElem?_map, h3, e, ← h4]; rfl
    exact (List.getElem?_inj (List.getElem?_eq_some_iff.mp e1).1 J.nd).mp (e1.trans e2.symm)
theorem Marks.old {M : Mch} {f : Nat → Nat} {st pre : List Nat} {g : Nat → Nat} {reps : List Nat} (J : Marks M f st pre g reps) {s i r : Nat} (hs : s ∉ pre) (hi : reps[i]? = some r) (e : mkK M f st r = mkK M f st s) : Marks M f st (pre ++ [s]) (fun x => if x = s then i else g x) reps :=
  ⟨J.nd, J.sub, fun x hx => by
    by_cases h : x = s
    · subst h; rw [if_pos rfl]; exact ⟨r, hi, e⟩
    · rw [if_neg h]
      rcases List.mem_append.mp hx with hx | hx
      · exact J.at' x hx
      · exact (h (List.mem_singleton.mp hx)).elim⟩
theorem Marks.new {M : Mch} {f : Nat → Nat} {st pre : List Nat} {g : Nat → Nat} {reps : List Nat} (J : Marks M f st pre g reps) {s : Nat} (hs : s ∉ pre) (hm : s ∈ st) (e : ∀ r ∈ reps, mkK M f st r ≠ mkK M f st s) : Marks M f st (pre ++ [s]) (fun x => if x = s then reps.length else g x) (reps ++ [s]) where
  nd := by
    rw [List.map_append]
    exact nodup_snoc J.nd fun h => by
      obtain ⟨r, h1, h2⟩ := List.mem_map.mp h
      exact e r h1 h2
  sub := fun r hr => (List.mem_append.mp hr).elim (J.sub r) fun h => by rw [List.mem_singleton.mp h]; exact hm
  at' := fun x hx => by
    by_cases h : x = s
    · subst h
      rw [if_pos rfl]
      exact ⟨x, by simp, rfl⟩
    · rw [if_neg h]
      rcases List.mem_append.mp hx with hx | hx
      · obtain ⟨r, h1, h2⟩ := J.at' x hx
        exact ⟨r, by rw [List.getElem?_append_left (List.getElem?_eq_some_iff.mp h1).1]; exact h1, h2⟩
      · exact (h (List.mem_singleton.mp hx)).elim
theorem Marks.finer {M : Mch} (ok : M.Ok) {f : Nat → Nat} {st : List Nat} {g : Nat → Nat} {reps : List Nat} {more : Nat} (J : Marks M f st st g reps) (C : Closed M st) (K : Sorts M st f more) : Finer M st f more g reps.length ∧ Sorts M st g reps.length := by
  have ge : ∀ s ∈ st, ∀ t ∈ st, g s = g t ↔ f s = f t ∧ ∀ c, cellK f st (M.nx s c) = cellK f st (M.nx t c) := fun s hs t ht => by
    rw [J.ix hs ht, mk_iff ok (C.lt s hs) (C.lt t ht)]
  refine ⟨⟨K.wit, ge, fun s hs => ?_⟩, ⟨⟨reps, J.sub, ?_, rfl⟩⟩, fun s hs t ht e => K.fin s hs t ht ((ge s hs t ht).mp e).1, fun s hs t ht e => (ge s hs t ht).mpr ⟨K.req s hs t ht e, cell_req C K.req hs ht e⟩⟩
  · obtain ⟨r, h1, _⟩ := J.at' s hs
    exact (List.getElem?_eq_some_iff.mp h1).1
  · have nd := J.nd
    unfold List.Nodup at nd ⊢
    rw [List.pairwise_map] at nd ⊢
    exact nd.imp_of_mem fun {a b} ha hb h e => h ((J.ix (J.sub a ha) (J.sub b hb)).mp e)
theorem parted_ok (w : World) (ds : List D) (S : HD) (Q : QD) (h : spParted ds S Q) : rd_parted w (ends Q) (pad 11 ds) S := by
  obtain ⟨M, b, st, rfl, ok, C, hne, q⟩ := h
  have n4 := ok.n4
  have l3 := ok.l3
  have hsl : (sizeLine : Nat) = 16777216 := rfl
  have stl : st.length ≤ 400 := Nat.le_trans (lt_len C.nd C.lt) n4
  unfold rd_parted
  -- sorts
  refine seq_step fun N1 hN1 => ?_
  generalize hg8 : gNameD 8 = g8
  walk_at "rdx"
  subst hg8
  let f0 : Nat → Nat := fun s => if M.fin s = true then 1 else 0
  refine fun hz => ⟨hz, dcD_st (fun s => natD (f0 s)) trivial st [] C.nd (fun s hs Q1 Q0 h => ?_) (hN1 _ _ ?_)⟩
  · have e1 := end_at ok (C.lt s hs)
    unfold endsD
    simp_all only [e1]
    show Q1 (.int s) (.int (if M.fin s = true then 1 else 0)) S
    have e2 : natD (f0 s) = .int (if M.fin s = true then 1 else 0) := by
      show D.int ((if M.fin s = true then 1 else 0 : Nat) : Int) = _
      cases M.fin s <;> rfl
    rw [← e2]
    exact h
  clear hN1 N1
  rw [List.nil_append]
  -- many, more
  refine seq_step fun N1 hN1 => ?_
  generalize hg8 : gNameD 8 = g8
  generalize htl : (tBin (rIxW w) (tSlot 3) (tSlot 8) : TED) = tl
  walk_at "rdx"
  subst hg8 htl
  refine fun hz => ⟨hz, lcD_pure (fun d => match d with | .int s => some (natD (f0 s.toNat)) | _ => none) trivial _ _ (fun d hd Q1 Q0 h => ?_) ?_⟩
  · obtain ⟨s, hs, rfl⟩ := List.mem_map.mp hd
    have e1 : getK (dnat (fun s => natD (f0 s)) st) (.inl (s : Int)) = some (natD (f0 s)) := by rw [getK_nat, if_pos hs]
    simp_all only [e1]
    exact h
  have efm : (st.map natD).filterMap (fun d => match d with | .int s => some (natD (f0 s.toNat)) | _ => none) = (st.map fun s => ((f0 s : Nat) : Int)).map D.int := by
    rw [List.filterMap_map, List.map_map, ← List.filterMap_eq_map]
    rfl
  rw [List.nil_append, efm]
  obtain ⟨dnd, dmem⟩ := dist_ok (st.map fun s => ((f0 s : Nat) : Int))
  generalize hd0 : dist (st.map fun s => ((f0 s : Nat) : Int)) = dd at dnd dmem
  simp_all only [intsOf_map, hd0, List.length_map]
  refine ⟨by omega, hN1 _ _ ?_⟩
  clear hN1 N1
  have J0 : Sorts M st f0 dd.length := by
    refine ⟨?_, fun s hs t ht e => ?_, fun s hs t ht e => ?_⟩
    · obtain ⟨qs, q1, q2⟩ := pick (f := fun s => ((f0 s : Nat) : Int)) (st := st) dd fun v hv => List.mem_map.mp ((dmem v).mp hv)
      refine ⟨qs, q1, ?_, by rw [← q2, List.length_map]⟩
      rw [← q2] at dnd
      unfold List.Nodup at dnd ⊢
      rw [List.pairwise_map] at dnd ⊢
      exact dnd.imp fun h e => h (by simp only [e])
    · have e' : (if M.fin s = true then 1 else 0 : Nat) = if M.fin t = true then 1 else 0 := e
      cases h1 : M.fin s <;> cases h2 : M.fin t <;> simp [h1, h2] at e' ⊢
    · have := e []
      rw [accF_nil, accF_nil] at this
      show (if M.fin s = true then 1 else 0 : Nat) = if M.fin t = true then 1 else 0
      rw [this]
  have hpos : 0 < dd.length := by
    cases st with
    | nil => exact (hne rfl).elim
    | cons s st => exact List.length_pos_of_mem ((dmem _).mpr (List.mem_map.mpr ⟨s, List.mem_cons_self, rfl⟩))
  -- the loop
  refine seq_step fun N1 hN1 => ?_
  let I : Nat → SD → HD → Prop := fun m σ S' => ∃ (f : Nat → Nat) (many more : Nat) (v6 v7 v8 v9 : Option D), σ = [some (rowsD b M), some (endsD b M), some (.lst (st.map natD)), some (.dic (dnat (fun s => natD (f s)) st)), some (natD many), some (natD more), v6, v7, v8, v9, none] ∧
    Up 0 S S' ∧ Sorts M st f more ∧ ((many = 0 ∧ 0 < more) ∨ ∃ p, Finer M st p many f more) ∧ m = st.length - many
  refine while_go I (n := _) (fun m σ S' N ⟨f, many, more, v6, v7, v8, v9, i1, i2, J, hF, em⟩ k => ?_) ⟨f0, 0, dd.length, _, _, _, _, rfl, .refl S, J0, .inl ⟨rfl, hpos⟩, rfl⟩
  subst i1
  by_cases hgt : many < more
  · have hlt : decide (((more : Nat) : Int) > ((many : Nat) : Int)) = true := decide_eq_true (by omega)
    generalize hB : (sSeqD (sPar3 _ _ _ _) _ : TSD) = T1
    simp_all only [hlt]
    subst hB
    -- many, places, later = more, {}, {}
    refine seq_step fun N2 hN2 => ?_
    walk_at "rdx"
    refine .inr fun pl hpl => .inl fun lt hlt2 => ?_
    walk_at "rdx"
    refine hN2 _ _ ?_
    clear hN2 N2
    have ne : lt ≠ pl := fun e => by rw [e, HD.set_same] at hlt2; cases hlt2
    have hl0 : S'.hp lt = none := by rw [HD.set_ne ne] at hlt2; exact hlt2
    have pl0 := i2.none hpl
    have lt0 := i2.none hl0
    -- for state in states
    refine seq_step fun N2 hN2 => ?_
    generalize hB : (sSeqD _ _ : TSD) = T1
    walk_at "rdx"
    subst hB
    refine fun hz => loopD_go (fun i σ S3 => ∃ (g : Nat → Nat) (reps : List Nat) (v8 v9 : Option D), σ = [some (rowsD b M), some (endsD b M), some (.lst (st.map natD)), some (.dic (dnat (fun s => natD (f s)) st)), some (natD more), some (natD more), some (.ref pl), some (.ref lt), v8, v9, none] ∧
        S3.hp pl = some (.dct w (plD (mkD M f st) 0 reps)) ∧ S3.hp lt = some (.dic (dnat (fun s => natD (g s)) (st.take i))) ∧ Up 0 S S3 ∧ Marks M f st (st.take i) g reps)
      ⟨fun _ => 0, [], _, _, rfl, by rw [HD.set_ne (Ne.symm ne), HD.set_same]; rfl, by rw [HD.set_same]; rfl, (i2.set pl0).set lt0, ⟨List.nodup_nil, fun r hr => (by cases hr), fun s hs => (by simp at hs)⟩⟩
      (fun i d σ S3 N3 hi ⟨g, reps, v8, v9, j1, j2, j3, j4, j5⟩ k3 => ⟨trivial, ?_⟩) fun σ S3 ⟨g, reps, v8, v9, j1, j2, j3, j4, j5⟩ => ⟨trivial, hN2 _ _ ?_⟩
    · subst j1
      rw [List.getElem?_map] at hi
      obtain ⟨s, hs, rfl⟩ := Option.map_eq_some_iff.mp hi
      have hil : i < st.length := (List.getElem?_eq_some_iff.mp hs).1
      have hsm := List.mem_of_getElem? hs
      have htk : st.take (i + 1) = st.take i ++ [s] := by rw [List.take_add_one, hs]; rfl
      have hns : s ∉ st.take i := fun h => by
        have nd := C.nd
        have e : st = st.take i ++ s :: st.drop (i + 1) := by
          have e1 := List.drop_eq_getElem_cons hil
          have e2 : st[i] = s := by rw [List.getElem?_eq_getElem hil] at hs; exact Option.some.inj hs
          rw [e2] at e1
          rw [← e1, List.take_append_drop]
        rw [e, List.nodup_append] at nd
        exact nd.2.2 s h s List.mem_cons_self rfl
      have e1 : getK (dnat (fun s => natD (f s)) st) (.inl (s : Int)) = some (natD (f s)) := by rw [getK_nat, if_pos hsm]
      obtain ⟨row, r1, r2, r3, r4⟩ := row_at ok b (C.lt s hsm)
      have erow : M.rowOf s = row := by unfold Mch.rowOf; rw [r1]; rfl
      -- mark
      refine seq_step fun N4 hN4 => ?_
      generalize hg10 : gNameD 10 = g10
      generalize htl : (tMethW w _ _ _ : TED) = tl
      unfold rowsD
      simp_all only [e1, r3]
      subst hg10 htl
      refine ⟨by decide, any_sq fun hz2 => ⟨hz2, lcD_pure (cellOf (dnat (fun s => natD (f s)) st)) trivial _ _ (fun d hd Q1 Q0 h => ?_) ?_⟩⟩
      · obtain ⟨c, hc, rfl⟩ := List.mem_map.mp hd
        cases c with
        | none =>
          walk_at "rdx"
          exact ⟨.inl ⟨_, rfl⟩, h⟩
        | some t =>
          walk_at "rdx"
          exact ⟨.inl ⟨_, rfl⟩, h⟩
      rw [List.nil_append, cells_of]
      refine ⟨by rw [List.length_map, r2]; omega, hN4 _ _ ?_⟩
      clear hN4 N4
      have emk : D.tup ([natD (f s)] ++ row.map (cellD f st)) = mkD M f st s := by unfold mkD; rw [erow]; rfl
      rw [emk]
      have ek := mk_key M f st s
      have ed := mk_dep M f st s
      have hrl : reps.length ≤ 400 := by
        refine Nat.le_trans (sub_len ?_ j5.sub) stl
        have nd := j5.nd
        unfold List.Nodup at nd ⊢
        rw [List.pairwise_map] at nd
        exact nd.imp fun h e => h (by rw [e])
      have hpl3 : isDic w S3 (.ref pl) := .inr ⟨plD (mkD M f st) 0 reps, by simp only [tdOf, j2]⟩
      have tdl : tdOf S3 (.ref lt) = none := by simp only [tdOf, j3]
      have hsd : hasK (dnat (fun s => natD (g s)) (st.take i)) (.inl (s : Int)) = false := by rw [hasK_nat]; exact decide_eq_false hns
      have eput : ∀ v : Nat, putD (dnat (fun s => natD (g s)) (st.take i)) (.inl (s : Int)) (natD v) = dnat (fun x => natD (if x = s then v else g x)) (st.take i ++ [s]) := fun v => by
        have e2 : dnat (fun s => natD (g s)) (st.take i) = dnat (fun x => natD (if x = s then v else g x)) (st.take i) := dnat_congr fun x hx => by
          have ne : x ≠ s := fun e => hns (e ▸ hx)
          simp only [ne, if_false]
        rw [e2]
        have := putD_new (fun x => natD (if x = s then v else g x)) hns
        simp only [if_true] at this
        exact this
      have lk : (st.take i).length ≤ 400 := by rw [List.length_take]; omega
      rcases getT_pl (mk := mkD M f st) (nk := mkK M f st) (fun r => keyT_nk (mk_key M f st r)) (mkK M f st s) reps 0 with ⟨g1, g2⟩ | ⟨i', r, g1, g2, g3⟩
      · have hpn : putT (plD (mkD M f st) 0 reps) (mkD M f st s) (mkK M f st s) (natD reps.length) = plD (mkD M f st) 0 (reps ++ [s]) := by
          unfold putT hasT
          rw [g1, plD_snoc, Nat.zero_add]
          rfl
        have j3' : (S3.set pl (.dct w (plD (mkD M f st) 0 (reps ++ [s])))).hp lt = some (.dic (dnat (fun s => natD (g s)) (st.take i))) := by rw [HD.set_ne ne]; exact j3
        simp_all only [j2, ek, g1, plD_len, hpn, j3', dnat_len]
        refine ⟨hpl3, ed, by omega, by omega, k3 _ _ ⟨_, reps ++ [s], _, _, rfl, ?_, ?_, (j4.set pl0).set lt0, by rw [htk]; exact j5.new hns hsm g2⟩⟩
        · rw [HD.set_ne (Ne.symm ne), HD.set_same]
        · rw [HD.set_same, htk, eput]
      · rw [Nat.zero_add] at g1
        simp_all only [j2, ek, g1, plD_len, j3, dnat_len]
        refine ⟨hpl3, ed, by omega, by omega, k3 _ _ ⟨_, reps, _, _, rfl, ?_, ?_, j4.set lt0, by rw [htk]; exact j5.old hns g2 g3⟩⟩
        · rw [HD.set_ne (Ne.symm ne)]; exact j2
        · rw [HD.set_same, htk, eput]
    · subst j1
      rw [List.length_map, List.take_length] at j3 j5
      obtain ⟨F2, J2⟩ := j5.finer ok C J
      have hml := J2.wit.le
      clear hN2 N2
      refine seq_step fun N2 hN2 => ?_
      refine ⟨_, _, CvS.frzD (i := 7) rfl j3, ?_⟩
      have j2' : (S3.del lt).hp pl = some (.dct w (plD (mkD M f st) 0 reps)) := by
        simp only [HD.del, Ne.symm ne, if_false]
        exact j2
      simp_all only [j2', plD_len]
      refine ⟨by decide, hN2 _ _ ?_⟩
      clear hN2 N2
      have hc : decide (((reps.length : Nat) : Int) > 400) = false := decide_eq_false (by omega)
      simp_all only [hc]
      exact k (st.length - more) _ _ (by rw [em]; have := J.wit.le; omega) ⟨g, more, reps.length, _, _, _, _, rfl, j4.del lt0, J2, .inr ⟨f, F2⟩, rfl⟩
  · have hlt : decide (((more : Nat) : Int) > ((many : Nat) : Int)) = false := decide_eq_false (by omega)
    generalize hB : (sSeqD (sPar3 _ _ _ _) _ : TSD) = T1
    simp_all only [hlt]
    refine hN1 _ _ ?_
    walk_at "rdx"
    rcases hF with ⟨h0, h1⟩ | ⟨p, F⟩
    · omega
    · exact i2.fin (q f (done C F J (by omega)))
end PM
/-! PN6: what shrunk makes, as plain mathematics. -/
namespace PM
open PySem PySem.Spec PyProof.Rows PD
def nxR (rows : List (List (Option Nat))) (i c : Nat) : Option Nat := ((rows[i]?).bind (·[c]?)).bind id
theorem nxR_snoc (fr : List (List (Option Nat))) (cur : List (Option Nat)) (x : Option Nat) (i c : Nat) : nxR (fr ++ [cur ++ [x]]) i c = if i = fr.length ∧ c = cur.length then x else nxR (fr ++ [cur]) i c := by
  unfold nxR
  by_cases hi : i < fr.length
  · rw [List.getElem?_append_left hi, List.getElem?_append_left hi, if_neg (by omega)]
  · by_cases he : i = fr.length
    · subst he
      simp only [List.getElem?_append_right (Nat.le_refl _), Nat.sub_self, List.getElem?_cons_zero, Option.bind_some, true_and]
      by_cases hc : c < cur.length
      · rw [List.getElem?_append_left hc, if_neg (by omega)]
      · by_cases hce : c = cur.length
        · subst hce
          simp
        · rw [if_neg hce, List.getElem?_eq_none (by simp; omega), List.getElem?_eq_none (by omega)]
    · rw [if_neg (by omega), List.getElem?_eq_none (by simp; omega), List.getElem?_eq_none (by simp; omega)]
theorem nxR_new (fr : List (List (Option Nat))) (i c : Nat) : nxR (fr ++ [[]]) i c = nxR fr i c := by
  unfold nxR
  by_cases hi : i < fr.length
  · rw [List.getElem?_append_left hi]
  · by_cases he : i = fr.length
    · subst he; simp
    · rw [List.getElem?_eq_none (by simp; omega), List.getElem?_eq_none (by omega)]
def Num (rows : List (List (Option Nat))) (n : Nat) : Prop := ∀ j, 0 < j → j < n → ∃ i c, i < j ∧ nxR rows i c = some j ∧ ∀ i' c' j', (i' < i ∨ (i' = i ∧ c' < c)) → nxR rows i' c' = some j' → j' < j
/-- a cell more that is no new number -/
theorem nxR_pos {fr : List (List (Option Nat))} {cur : List (Option Nat)} {i c j : Nat} (h : nxR (fr ++ [cur]) i c = some j) : i < fr.length ∨ (i = fr.length ∧ c < cur.length) := by
  unfold nxR at h
  by_cases hi : i < fr.length
  · exact .inl hi
  · by_cases he : i = fr.length
    · subst he
      simp only [List.getElem?_append_right (Nat.le_refl _), Nat.sub_self, List.getElem?_cons_zero, Option.bind_some] at h
      refine .inr ⟨rfl, ?_⟩
      apply Nat.lt_of_not_le
      intro z
      rw [List.getElem?_eq_none z] at h
      cases h
    · rw [List.getElem?_eq_none (by simp; omega)] at h
      cases h
theorem num_old {fr : List (List (Option Nat))} {cur : List (Option Nat)} {n : Nat} (h : Num (fr ++ [cur]) n) (x : Option Nat) : Num (fr ++ [cur ++ [x]]) n := fun j h0 hj => by
  obtain ⟨i, c, h1, h2, h3⟩ := h j h0 hj
  have hp := nxR_pos h2
  refine ⟨i, c, h1, by rw [nxR_snoc, if_neg (by omega)]; exact h2, fun i' c' j' ha hn => ?_⟩
  rw [nxR_snoc, if_neg (by omega)] at hn
  exact h3 i' c' j' ha hn
theorem num_new {fr : List (List (Option Nat))} {cur : List (Option Nat)} {n : Nat} (h : Num (fr ++ [cur]) n) (hb : ∀ i c j, nxR (fr ++ [cur]) i c = some j → j < n) (hf : fr.length < n) : Num (fr ++ [cur ++ [some n]]) (n + 1) := fun j h0 hj => by
  by_cases hjn : j < n
  · exact num_old h (some n) j h0 hjn
  · have : j = n := by omega
    subst this
    refine ⟨fr.length, cur.length, hf, by rw [nxR_snoc, if_pos ⟨rfl, rfl⟩], fun i' c' j' ha hn => ?_⟩
    rw [nxR_snoc, if_neg (by omega)] at hn
    exact hb i' c' j' hn
def CelOk (f : Nat → Nat) (st hs : List Nat) (x y : Option Nat) : Prop := (∃ t j h, x = some t ∧ t ∈ st ∧ y = some j ∧ hs[j]? = some h ∧ f h = f t) ∨ ((∀ t, x = some t → t ∉ st) ∧ y = none)
theorem CelOk.mono {f : Nat → Nat} {st hs : List Nat} {x y : Option Nat} (h : CelOk f st hs x y) (t : Nat) : CelOk f st (hs ++ [t]) x y := by
  rcases h with ⟨t', j, h', h1, h2, h3, h4, h5⟩ | h
  · exact .inl ⟨t', j, h', h1, h2, h3, by rw [List.getElem?_append_left (List.getElem?_eq_some_iff.mp h4).1]; exact h4, h5⟩
  · exact .inr h
structure ShI (M : Mch) (f : Nat → Nat) (st hs : List Nat) (rows : List (List (Option Nat))) : Prop where
  h0 : hs[0]? = some 0
  sub : ∀ h ∈ hs, h ∈ st
  nd : (hs.map f).Nodup
  rel : ∀ (i : Nat) (r : List (Option Nat)) (h : Nat), rows[i]? = some r → hs[i]? = some h → ∀ c, c < r.length → CelOk f st hs (M.nx h c) ((r[c]?).bind id)
  num : Num rows hs.length
  len : rows.length ≤ hs.length
theorem ShI.bnd {M : Mch} {f : Nat → Nat} {st hs : List Nat} {rows : List (List (Option Nat))} (J : ShI M f st hs rows) {i c j : Nat} (h : nxR rows i c = some j) : j < hs.length := by
  unfold nxR at h
  cases hr : rows[i]? with
  | none => rw [hr] at h; cases h
  | some r =>
    rw [hr, Option.bind_some] at h
    have hi := (List.getElem?_eq_some_iff.mp hr).1
    have hil : i < hs.length := Nat.lt_of_lt_of_le hi J.len
    have hc : c < r.length := by
      apply Nat.lt_of_not_le
      intro z
      rw [List.getElem?_eq_none z] at h
      cases h
    rcases J.rel i r _ hr (List.getElem?_eq_getElem hil) c hc with ⟨_, j', _, _, _, h3, h4, _⟩ | ⟨_, h3⟩
    · rw [h] at h3
      cases h3
      exact (List.getElem?_eq_some_iff.mp h4).1
    · rw [h] at h3
      cases h3
theorem ShI.hsnd {M : Mch} {f : Nat → Nat} {st hs : List Nat} {rows : List (List (Option Nat))} (J : ShI M f st hs rows) : hs.Nodup := by
  have nd := J.nd
  unfold List.Nodup at nd ⊢
  rw [List.pairwise_map] at nd
  exact nd.imp fun h e => h (by rw [e])
/-- a cell is put behind -/
theorem ShI.cell {M : Mch} {f : Nat → Nat} {st hs : List Nat} {fr : List (List (Option Nat))} {cur : List (Option Nat)} (J : ShI M f st hs (fr ++ [cur])) {h : Nat} (hh : hs[fr.length]? = some h) {x : Option Nat} (hx : CelOk f st hs (M.nx h cur.length) x) : ShI M f st hs (fr ++ [cur ++ [x]]) where
  h0 := J.h0
  sub := J.sub
  nd := J.nd
  rel := fun i r h' hr hh' c hc => by
    by_cases hi : i < fr.length
    · rw [List.getElem?_append_left hi] at hr
      exact J.rel i r h' (by rw [List.getElem?_append_left hi]; exact hr) hh' c hc
    · have hl := (List.getElem?_eq_some_iff.mp hr).1
      simp only [List.length_append, List.length_singleton] at hl
      have he : i = fr.length := by omega
      subst he
      simp only [List.getElem?_append_right (Nat.le_refl _), Nat.sub_self, List.getElem?_cons_zero, Option.some.injEq] at hr
      subst hr
      rw [hh] at hh'
      cases hh'
      by_cases hcl : c < cur.length
      · rw [List.getElem?_append_left hcl]
        exact J.rel fr.length cur h (by simp) hh c hcl
      · have : c = cur.length := by simp at hc; omega
        subst this
        simpa using hx
  num := num_old J.num x
  len := by have := J.len; simpa using this
/-- a new head, and its cell -/
theorem ShI.head {M : Mch} {f : Nat → Nat} {st hs : List Nat} {fr : List (List (Option Nat))} {cur : List (Option Nat)} (J : ShI M f st hs (fr ++ [cur])) {h t : Nat} (hh : hs[fr.length]? = some h) (hn : M.nx h cur.length = some t) (ht : t ∈ st) (hf : f t ∉ hs.map f) : ShI M f st (hs ++ [t]) (fr ++ [cur ++ [some hs.length]]) where
  h0 := by rw [List.getElem?_append_left (List.getElem?_eq_some_iff.mp J.h0).1]; exact J.h0
  sub := fun h' hm => (List.mem_append.mp hm).elim (J.sub h') fun e => by rw [List.mem_singleton.mp e]; exact ht
  nd := by rw [List.map_append]; exact nodup_snoc J.nd hf
  rel := fun i r h' hr hh' c hc => by
    have hil : i < hs.length := by
      have hl := (List.getElem?_eq_some_iff.mp hr).1
      have := J.len
      simp only [List.length_append, List.length_singleton] at hl this
      omega
    rw [List.getElem?_append_left hil] at hh'
    by_cases hi : i < fr.length
    · rw [List.getElem?_append_left hi] at hr
      exact (J.rel i r h' (by rw [List.getElem?_append_left hi]; exact hr) hh' c hc).mono t
    · have hl := (List.getElem?_eq_some_iff.mp hr).1
      simp only [List.length_append, List.length_singleton] at hl
      have he : i = fr.length := by omega
      subst he
      simp only [List.getElem?_append_right (Nat.le_refl _), Nat.sub_self, List.getElem?_cons_zero, Option.some.injEq] at hr
      subst hr
      rw [hh] at hh'
      cases hh'
      by_cases hcl : c < cur.length
      · rw [List.getElem?_append_left hcl]
        exact (J.rel fr.length cur h (by simp) hh c hcl).mono t
      · have : c = cur.length := by simp at hc; omega
        subst this
        rw [hn]
        exact .inl ⟨t, hs.length, t, rfl, ht, by simp, by simp, rfl⟩
  num := by
    rw [List.length_append, List.length_singleton]
    exact num_new J.num (fun i c j hj => J.bnd hj) (List.getElem?_eq_some_iff.mp hh).1
  len := by have := J.len; simp at this ⊢; omega
theorem ShI.row {M : Mch} {f : Nat → Nat} {st hs : List Nat} {fr : List (List (Option Nat))} (J : ShI M f st hs fr) (hl : fr.length < hs.length) : ShI M f st hs (fr ++ [[]]) where
  h0 := J.h0
  sub := J.sub
  nd := J.nd
  rel := fun i r h hr hh c hc => by
    by_cases hi : i < fr.length
    · rw [List.getElem?_append_left hi] at hr
      exact J.rel i r h hr hh c hc
    · have hl := (List.getElem?_eq_some_iff.mp hr).1
      simp only [List.length_append, List.length_singleton] at hl
      have he : i = fr.length := by omega
      subst he
      simp at hr
      subst hr
      cases hc
  num := fun j h0 hj => by
    obtain ⟨i, c, h1, h2, h3⟩ := J.num j h0 hj
    exact ⟨i, c, h1, by rw [nxR_new]; exact h2, fun i' c' j' ha hn => h3 i' c' j' ha (by rw [← nxR_new fr]; exact hn)⟩
  len := by simp; omega
/-- the whole machine -/
def mOf (M : Mch) (hs : List Nat) (fr : List (List (Option Nat))) : Mch := ⟨M.L, fr, hs.map M.fin⟩
theorem ShI.all {M : Mch} (ok : M.Ok) {f : Nat → Nat} {st hs : List Nat} {fr : List (List (Option Nat))} (C : Closed M st) (hf : ∀ s ∈ st, ∀ t ∈ st, f s = f t ↔ M.req s t) (J : ShI M f st hs fr) (hl : fr.length = hs.length) (hw : ∀ r ∈ fr, r.length = M.L) :
    (mOf M hs fr).Ok ∧ Red (mOf M hs fr) ∧ (∀ w, (mOf M hs fr).acc w = M.acc w) ∧ fr.length ≤ M.rows.length := by
  have h0l := (List.getElem?_eq_some_iff.mp J.h0).1
  have hsl : hs.length ≤ M.rows.length := lt_len J.hsnd fun h hm => C.lt h (J.sub h hm)
  have n4 := ok.n4
  have O : (mOf M hs fr).Ok := ⟨ok.l1, ok.l3, by show 1 ≤ fr.length; omega, by show fr.length ≤ 400; omega, by show (hs.map M.fin).length = fr.length; rw [List.length_map, hl], hw, fun r hr c hc t ht => by
    subst ht
    obtain ⟨i, hi⟩ := List.mem_iff_getElem?.mp hr
    obtain ⟨k, hk⟩ := List.mem_iff_getElem?.mp hc
    show t < fr.length
    rw [hl]
    have hi' : fr[i]? = some r := hi
    exact J.bnd (i := i) (c := k) (by unfold nxR; rw [hi', Option.bind_some, hk]; rfl)⟩
  have nxe : ∀ i c, (mOf M hs fr).nx i c = nxR fr i c := fun i c => rfl
  have fine : ∀ j h, hs[j]? = some h → (mOf M hs fr).fin j = M.fin h := fun j h hj => by
    show ((hs.map M.fin)[j]?).getD false = _
    rw [List.getElem?_map, hj]
    rfl
  have sim : ∀ (w : List Nat) (j h : Nat), hs[j]? = some h → (mOf M hs fr).accF j w = M.accF h w := by
    intro w
    induction w with
    | nil => intro j h hj; rw [accF_nil, accF_nil, fine j h hj]
    | cons c w ih =>
      intro j h hj
      have hjl : j < fr.length := by rw [hl]; exact (List.getElem?_eq_some_iff.mp hj).1
      have hr : fr[j]? = some fr[j] := by simp [hjl]
      have hrl := hw _ (List.getElem_mem hjl)
      rw [accF_cons, accF_cons, nxe]
      by_cases hc : c < M.L
      · have e1 : nxR fr j c = ((fr[j])[c]?).bind id := by unfold nxR; rw [hr]; rfl
        rcases J.rel j _ h hr hj c (by rw [hrl]; exact hc) with ⟨t, j2, h2, a1, a2, a3, a4, a5⟩ | ⟨a1, a2⟩
        · rw [e1, a3, a1]
          show (mOf M hs fr).accF j2 w = M.accF t w
          rw [ih j2 h2 a4]
          exact (hf h2 (J.sub h2 (List.mem_of_getElem? a4)) t a2).mp a5 w
        · rw [e1, a2]
          cases hn : M.nx h c with
          | none => rfl
          | some t =>
            show false = M.accF t w
            cases hv : M.accF t w with
            | false => rfl
            | true => exact (a1 t hn (C.cl h (J.sub h (List.mem_of_getElem? hj)) c t hn ⟨w, hv⟩)).elim
      · have e1 : nxR fr j c = none := by
          unfold nxR
          rw [hr, Option.bind_some, List.getElem?_eq_none (by omega)]
          rfl
        rw [e1, nx_ge ok (by omega)]
  refine ⟨O, ⟨fun j hj => ?_, fun j k hj hk e => ?_, fun j h0 hj => J.num j h0 (by rw [← hl]; exact hj)⟩, fun w => ?_, by omega⟩
  · have hj' : j < hs.length := by rw [← hl]; exact hj
    obtain ⟨w, hw⟩ := C.lv _ (J.sub _ (List.getElem_mem hj'))
    exact ⟨w, by rw [sim w j hs[j] (by simp [hj'])]; exact hw⟩
  · have hj' : j < hs.length := by rw [← hl]; exact hj
    have hk' : k < hs.length := by rw [← hl]; exact hk
    have e1 : hs[j]? = some hs[j] := by simp [hj']
    have e2 : hs[k]? = some hs[k] := by simp [hk']
    have e3 : f hs[j] = f hs[k] := (hf _ (J.sub _ (List.getElem_mem hj')) _ (J.sub _ (List.getElem_mem hk'))).mpr fun w => by rw [← sim w j _ e1, ← sim w k _ e2]; exact e w
    have e4 : (hs.map f)[j]? = (hs.map f)[k]? := by rw [List.getElem?_map, List.getElem?_map, e1, e2, Option.map_some, Option.map_some, e3]
    exact (List.getElem?_inj (by rw [List.length_map]; exact hj') J.nd).mp e4
  · exact sim w 0 0 J.h0
end PM
/-! PN7: shrunk, smallest. -/
namespace PM
open PySem PySem.Spec PyProof.Rows PD
def plN (f : Nat → Nat) (n : Nat) : List Nat → List (D × D)
  | [] => []
  | r :: rs => (natD (f r), natD n) :: plN f (n + 1) rs
theorem plN_len (f : Nat → Nat) : ∀ (rs : List Nat) (n : Nat), (plN f n rs).length = rs.length
  | [], _ => rfl
  | r :: rs, n => by simp [plN, plN_len f rs (n + 1)]
theorem plN_snoc (f : Nat → Nat) (s : Nat) : ∀ (rs : List Nat) (n : Nat), plN f n (rs ++ [s]) = plN f n rs ++ [(natD (f s), natD (n + rs.length))]
  | [], n => rfl
  | r :: rs, n => by
    show (natD (f r), natD n) :: plN f (n + 1) (rs ++ [s]) = _
    rw [plN_snoc f s rs (n + 1)]
    simp only [List.length_cons]
    rw [show n + 1 + rs.length = n + (rs.length + 1) by omega]
    rfl
theorem getK_pl (f : Nat → Nat) (v : Nat) : ∀ (rs : List Nat) (n : Nat), (getK (plN f n rs) (.inl (v : Int)) = none ∧ v ∉ rs.map f) ∨ ∃ i r, getK (plN f n rs) (.inl (v : Int)) = some (natD (n + i)) ∧ rs[i]? = some r ∧ f r = v
  | [], _ => .inl ⟨rfl, by simp⟩
  | r :: rs, n => by
    by_cases e : f r = v
    · refine .inr ⟨0, r, ?_, rfl, e⟩
      show (if keyOf (natD (f r)) = some (.inl (v : Int)) then some (natD n) else _) = _
      rw [if_pos (by rw [e]; rfl)]
      rfl
    · have e1 : getK (plN f n (r :: rs)) (.inl (v : Int)) = getK (plN f (n + 1) rs) (.inl (v : Int)) := by
        show (if keyOf (natD (f r)) = some (.inl (v : Int)) then some (natD n) else _) = _
        refine if_neg fun q => e ?_
        have q' : (some (Sum.inl (f r : Int)) : Option L2.Key) = some (Sum.inl (v : Int)) := q
        have := Sum.inl.inj (Option.some.inj q')
        omega
      rcases getK_pl f v rs (n + 1) with ⟨h1, h2⟩ | ⟨i, r', h1, h2, h3⟩
      · exact .inl ⟨by rw [e1, h1], by rw [List.map_cons, List.mem_cons]; exact fun z => z.elim (fun z => e z.symm) h2⟩
      · exact .inr ⟨i + 1, r', by rw [e1, h1, show n + 1 + i = n + (i + 1) by omega], by simpa using h2, h3⟩
theorem putD_pl (f : Nat → Nat) {t : Nat} {rs : List Nat} (h : getK (plN f 0 rs) (.inl (f t : Int)) = none) : putD (plN f 0 rs) (.inl (f t : Int)) (natD rs.length) = plN f 0 (rs ++ [t]) := by
  unfold putD hasK
  rw [h, plN_snoc, Nat.zero_add]
  rfl
def filtF (ls : List Nat) : D → Option D
  | .int s => if s.toNat ∈ ls then some (.int s) else none
  | _ => none
theorem filtF_nat (ls : List Nat) (s : Nat) : filtF ls (natD s) = if s ∈ ls then some (natD s) else none := by
  show (if ((s : Nat) : Int).toNat ∈ ls then some (natD s) else none) = _
  rw [Int.toNat_natCast]
theorem filtF_map (ls : List Nat) : ∀ ms : List Nat, (ms.map natD).filterMap (filtF ls) = (ms.filter fun s => decide (s ∈ ls)).map natD
  | [] => rfl
  | x :: ms => by
    rw [List.map_cons, List.filterMap_cons, List.filter_cons, filtF_nat, filtF_map ls ms]
    by_cases hx : x ∈ ls
    · simp only [hx, if_true, decide_true, List.map_cons]
    · simp only [hx, if_false, decide_false, Bool.false_eq_true]
def spShrunk : SpD := fun ds S Q => ∃ (M : Mch) (b : Bool × Bool), ds = [natD M.L, rowsD b M, endsD b M] ∧ M.Ok ∧ ∀ M' : Mch, M'.Ok → Smallest M' → M'.L = M.L → (∀ w, M'.acc w = M.acc w) → M'.rows.length ≤ M.rows.length → Q (enc M') S
theorem shrunk_len (ds : List D) (S : HD) (Q : QD) (h : spShrunk ds S Q) : ds.length = 3 := by
  obtain ⟨_, _, rfl, _⟩ := h
  rfl
theorem triv_row : ∀ n : Nat, (List.replicate n [D.non]).flatten = (List.replicate n (none : Option Nat)).map encC
  | 0 => rfl
  | n + 1 => by
    rw [List.replicate_succ, List.flatten_cons, triv_row n, List.replicate_succ, List.map_cons]
    rfl
theorem triv_ok {L : Nat} (h1 : 1 ≤ L) (h3 : L ≤ 3) : (triv L).Ok := ⟨h1, h3, Nat.le_refl _, by show 1 ≤ 400; decide, rfl, fun r hr => by
    have hr' : r ∈ [List.replicate L (none : Option Nat)] := hr
    rw [List.mem_singleton.mp hr']; exact List.length_replicate, fun r hr c hc t ht => by
    have hr' : r ∈ [List.replicate L (none : Option Nat)] := hr
    rw [List.mem_singleton.mp hr'] at hc
    rw [List.eq_of_mem_replicate hc] at ht
    cases ht⟩
theorem triv_acc {L : Nat} (w : List Nat) : (triv L).acc w = false := by
  have nx : ∀ s c, (triv L).nx s c = none := fun s c => by
    unfold Mch.nx triv
    cases s with
    | zero =>
      simp only [List.getElem?_cons_zero, Option.bind_some, List.getElem?_replicate]
      split <;> rfl
    | succ s => simp
  cases w with
  | nil => rfl
  | cons c w =>
    rw [acc_F, accF_cons, nx]
theorem shrunk_ok (ds : List D) (S : HD) (Q : QD) (h : spShrunk ds S Q) : rd_shrunk spLiv spParted spMet (ends Q) (pad 11 ds) S := by
  obtain ⟨M, b, rfl, ok, q⟩ := h
  have n4 := ok.n4
  have l3 := ok.l3
  have hsl : (sizeLine : Nat) = 16777216 := rfl
  unfold rd_shrunk
  -- alive
  refine seq_step fun N1 hN1 => ?_
  walk_at "rdx"
  refine ⟨M, b, rfl, ok, fun ls lnd lmem => hN1 _ _ ?_⟩
  clear hN1 N1
  have hk0 := hasK_nat (fun _ => D.bl true) 0 ls
  simp only [Int.natCast_zero] at hk0
  -- if 0 not in alive
  refine seq_step fun N1 hN1 => ?_
  by_cases h0 : 0 ∈ ls
  case neg =>
    simp_all only [hk0, h0, decide_false]
    refine ⟨by decide, ⟨by omega, by omega, by decide⟩, by decide, by decide, by decide, ?_⟩
    refine fin.here ?_
    have := q (triv M.L) (triv_ok ok.l1 ok.l3) (.inr ⟨rfl, triv_acc⟩) rfl (fun w => ?_) ok.n1
    · unfold enc triv encR at this
      simp only [List.map_cons, List.map_nil] at this
      rw [show ((M.L : Nat) : Int).toNat = M.L from rfl, triv_row]
      exact this
    · rw [triv_acc]
      cases hv : M.acc w with
      | false => rfl
      | true => exact (h0 ((lmem 0).mpr ⟨w, hv⟩)).elim
  simp_all only [hk0, h0, decide_true]
  refine hN1 _ _ ?_
  clear hN1 N1
  -- sorts
  refine seq_step fun N1 hN1 => ?_
  generalize hg10 : gNameD 10 = g10
  generalize htt : (tTst (tBin (rInY false) _ _) : TTD) = tt
  walk_at "rdx"
  subst hg10 htt
  refine ⟨M, b, rfl, ok, fun ms mnd mmem => fun hz => ⟨hz, lcD_pure (filtF ls) trivial _ _ (fun d hd Q1 Q0 h => ?_) ?_⟩⟩
  · obtain ⟨s, hs, rfl⟩ := List.mem_map.mp hd
    have e1 := hasK_nat (fun _ => D.bl true) s ls
    by_cases hm : s ∈ ls
    · rw [filtF_nat, if_pos hm] at h
      simp_all only [e1, hm, decide_true]
      exact h
    · rw [filtF_nat, if_neg hm] at h
      simp_all only [e1, hm, decide_false]
      exact h
  rw [List.nil_append, filtF_map]
  generalize hst : (ms.filter fun s => decide (s ∈ ls)) = st
  have stm : ∀ s, s ∈ st ↔ M.reach s ∧ M.live s := fun s => by
    rw [← hst, List.mem_filter, mmem, decide_eq_true_iff, lmem]
  have C : Closed M st := by
    refine ⟨?_, fun s hs => ?_, fun s hs => ((stm s).mp hs).2, fun s hs c t hn hl => (stm t).mpr ⟨reach_nx ((stm s).mp hs).1 hn, hl⟩⟩
    · rw [← hst]; exact List.Pairwise.filter _ mnd
    · obtain ⟨w, hw⟩ := ((stm s).mp hs).1
      exact run_lt ok w (some 0) s (fun t e => by cases e; exact ok.n1) hw
  have z0 : 0 ∈ st := (stm 0).mpr ⟨reach_0 M, (lmem 0).mp h0⟩
  refine ⟨M, b, st, rfl, ok, C, fun e => (by rw [e] at z0; cases z0), fun f hf => hN1 _ _ ?_⟩
  clear hN1 N1
  have e00 : getK (dnat (fun s => natD (f s)) st) (.inl 0) = some (natD (f 0)) := by
    have := getK_nat (fun s => natD (f s)) 0 st
    rw [if_pos z0] at this
    exact this
  -- heads, places, found
  refine seq_step fun N1 hN1 => ?_
  simp_all only [e00]
  refine ⟨by decide, fun p1 hp1 => ⟨by decide, fun p2 hp2 => ⟨by decide, fun p3 hp3 => hN1 _ _ ?_⟩⟩⟩
  clear hN1 N1
  have n21 : p2 ≠ p1 := fun e => by rw [e, HD.set_same] at hp2; cases hp2
  have n31 : p3 ≠ p1 := fun e => by rw [e, HD.set_ne (Ne.symm n21), HD.set_same] at hp3; cases hp3
  have n32 : p3 ≠ p2 := fun e => by rw [e, HD.set_same] at hp3; cases hp3
  have z2 : S.hp p2 = none := by rw [HD.set_ne n21] at hp2; exact hp2
  have z3 : S.hp p3 = none := by rw [HD.set_ne n32, HD.set_ne n31] at hp3; exact hp3
  -- the rows
  refine seq_step fun N1 hN1 => ?_
  let I : Nat → SD → HD → Prop := fun m σ S' => ∃ (hs : List Nat) (fr : List (List (Option Nat))) (v8 v9 : Option D), σ = [some (natD M.L), some (rowsD b M), some (endsD b M), some (.dic (dnat (fun _ => .bl true) ls)), some (.dic (dnat (fun s => natD (f s)) st)), some (.ref p1), some (.ref p2), some (.ref p3), v8, v9, none] ∧
    S'.hp p1 = some (.lst (hs.map natD)) ∧ S'.hp p2 = some (.dic (plN f 0 hs)) ∧ S'.hp p3 = some (.lst (fr.map encR)) ∧ Up 0 S S' ∧ ShI M f st hs fr ∧ (∀ r ∈ fr, r.length = M.L) ∧ m = M.rows.length - fr.length
  refine while_go I (n := _) (fun m σ S' N ⟨hs, fr, v8, v9, e0, e1, e2, e3, u, J, hw, em⟩ k => ?_) ⟨[0], [], _, _, rfl, ?_, ?_, HD.set_same, (((Up.refl S).new hp1).set z2).set z3, ⟨rfl, fun h hh => by rw [List.mem_singleton.mp hh]; exact z0, by simp, fun i r h hr => (by simp at hr), fun j h0 hj => (by simp at hj; omega), by simp⟩, fun r hr => (by cases hr), rfl⟩
  · rw [HD.set_ne (Ne.symm n31), HD.set_ne (Ne.symm n21), HD.set_same]; rfl
  · rw [HD.set_ne (Ne.symm n32), HD.set_same]; rfl
  subst e0
  have hsn := lt_len J.hsnd fun h hm => C.lt h (J.sub h hm)
  by_cases hlt : fr.length < hs.length
  case neg =>
    have hl : decide (((fr.length : Nat) : Int) < ((hs.length : Nat) : Int)) = false := decide_eq_false (by omega)
    generalize hB : (sSeqD (sAsgD (tLstR tNilD) _) _ : TSD) = T1
    simp_all only [e1, e3, List.length_map, hl]
    clear hB T1
    refine hN1 _ _ ?_
    have J' := J.len
    have hle : fr.length = hs.length := by omega
    obtain ⟨O, R, A, Ln⟩ := J.all ok C hf hle hw
    generalize hg10 : gNameD 10 = g10
    generalize htb : (tCallD rBoolD _ : TED) = tb
    simp_all only [e1, e3]
    subst hg10 htb
    refine fun hz => ⟨hz, lcD_pure (fun d => match d with | .int s => some (.bl (M.fin s.toNat)) | _ => none) e1 _ _ (fun d hd Q1 Q0 h => ?_) ⟨by decide, ?_⟩⟩
    · obtain ⟨s, hs', rfl⟩ := List.mem_map.mp hd
      have e4 := end_at ok (C.lt s (J.sub s hs'))
      unfold endsD
      simp_all only [e4]
      exact h
    · have efm : (hs.map natD).filterMap (fun d => match d with | .int s => some (D.bl (M.fin s.toNat)) | _ => none) = (hs.map M.fin).map .bl := by
        rw [List.filterMap_map, List.map_map, ← List.filterMap_eq_map]
        rfl
      rw [List.nil_append, efm]
      exact u.fin (q (mOf M hs fr) O (.inl R) rfl A Ln)
  have hl : decide (((fr.length : Nat) : Int) < ((hs.length : Nat) : Int)) = true := decide_eq_true (by omega)
  generalize hB : (sSeqD (sAsgD (tLstR tNilD) _) _ : TSD) = T1
  simp_all only [e1, e3, List.length_map, hl]
  subst hB
  -- row = []
  refine seq_step fun N2 hN2 => ?_
  walk_at "rdx"
  refine ⟨by decide, fun p4 hp4 => hN2 _ _ ?_⟩
  clear hN2 N2
  have n41 : p1 ≠ p4 := fun e => by rw [← e, e1] at hp4; cases hp4
  have n42 : p2 ≠ p4 := fun e => by rw [← e, e2] at hp4; cases hp4
  have n43 : p3 ≠ p4 := fun e => by rw [← e, e3] at hp4; cases hp4
  have z4 := u.none hp4
  have hh : hs[fr.length]? = some hs[fr.length] := by simp [hlt]
  generalize hs[fr.length] = h at hh
  have hhm := List.mem_of_getElem? hh
  obtain ⟨row, r1, r2, r3, r4⟩ := row_at ok b (C.lt h (J.sub h hhm))
  have a1 := atI_nat' (f := natD) hh
  have b1 : (S'.set p4 (.lst [])).hp p1 = some (.lst (hs.map natD)) := by rw [HD.set_ne n41]; exact e1
  have b2 : (S'.set p4 (.lst [])).hp p2 = some (.dic (plN f 0 hs)) := by rw [HD.set_ne n42]; exact e2
  have b3 : (S'.set p4 (.lst [])).hp p3 = some (.lst (fr.map encR)) := by rw [HD.set_ne n43]; exact e3
  have b4 : (S'.set p4 (.lst [])).hp p4 = some (.lst []) := HD.set_same
  have u4 := u.set (o := .lst []) z4
  generalize hS4 : S'.set p4 (.lst []) = S4 at b1 b2 b3 b4 u4
  -- for item in row
  refine seq_step fun N2 hN2 => ?_
  generalize hB : (sSeqD (sIfD _ _ _) _ : TSD) = T1
  unfold rowsD
  simp_all only [b1, b3, a1, r3, List.length_map]
  subst hB
  refine any_sq fun hz => loopD_go (fun i σ S3 => ∃ (hs2 : List Nat) (cur : List (Option Nat)) (v9 : Option D), σ = [some (natD M.L), some (rowsD b M), some (endsD b M), some (.dic (dnat (fun _ => .bl true) ls)), some (.dic (dnat (fun s => natD (f s)) st)), some (.ref p1), some (.ref p2), some (.ref p3), some (.ref p4), v9, none] ∧
      S3.hp p1 = some (.lst (hs2.map natD)) ∧ S3.hp p2 = some (.dic (plN f 0 hs2)) ∧ S3.hp p3 = some (.lst (fr.map encR)) ∧ S3.hp p4 = some (.lst (cur.map encC)) ∧ Up 0 S S3 ∧ ShI M f st hs2 (fr ++ [cur]) ∧ cur.length = i ∧ hs2[fr.length]? = some h)
    ⟨hs, [], _, rfl, b1, b2, b3, b4, u4, J.row hlt, rfl, hh⟩
    (fun i d σ S3 N3 hi ⟨hs2, cur, v9, j0, j1, j2, j3, j4, j5, j6, j7, j8⟩ k3 => ⟨trivial, ?_⟩) fun σ S3 ⟨hs2, cur, v9, j0, j1, j2, j3, j4, j5, j6, j7, j8⟩ => ⟨trivial, hN2 _ _ ?_⟩
  · subst j0
    obtain ⟨c, hc, rfl⟩ := encC_get hi
    have hn : M.nx h cur.length = c := by rw [j7, ← r4, hc]; rfl
    have hil : i < M.L := by rw [← r2]; exact (List.getElem?_eq_some_iff.mp hc).1
    have hh2 := lt_len j6.hsnd fun h hm => C.lt h (j6.sub h hm)
    refine seq_step fun N4 hN4 => ?_
    have skip : ∀ x, CelOk f st hs2 (M.nx h cur.length) x → (∀ S5, S5 = S3.set p4 (.lst ((cur ++ [x]).map encC)) → N3 [some (natD M.L), some (rowsD b M), some (endsD b M), some (.dic (dnat (fun _ => .bl true) ls)), some (.dic (dnat (fun s => natD (f s)) st)), some (.ref p1), some (.ref p2), some (.ref p3), some (.ref p4), some (encC c), none] S5) := fun x hx S5 eS5 => by
      subst eS5
      refine k3 _ _ ⟨hs2, cur ++ [x], _, rfl, ?_, ?_, ?_, HD.set_same, j5.set z4, j6.cell j8 hx, by rw [List.length_append, j7]; rfl, j8⟩
      · rw [HD.set_ne n41]; exact j1
      · rw [HD.set_ne n42]; exact j2
      · rw [HD.set_ne n43]; exact j3
    cases c with
    | none =>
      simp_all only [encC]
      refine hN4 _ _ ?_
      simp_all only [j4, encC, List.length_map]
      refine ⟨⟨_, rfl⟩, by omega, ?_⟩
      have := skip none (.inr ⟨fun t e => (by rw [hn] at e; cases e), rfl⟩) _ rfl
      rw [List.map_append] at this
      exact this
    | some t =>
      have s1 := hasK_nat (fun s => natD (f s)) t st
      by_cases ht : t ∈ st
      case neg =>
        simp_all only [encC, s1, ht, decide_false]
        refine hN4 _ _ ?_
        simp_all only [j4, s1, ht, decide_false, List.length_map]
        refine ⟨⟨_, rfl⟩, by omega, ?_⟩
        have := skip none (.inr ⟨fun t' e => (by rw [hn] at e; cases e; exact ht), rfl⟩) _ rfl
        rw [List.map_append] at this
        exact this
      have s2 : getK (dnat (fun s => natD (f s)) st) (.inl (t : Int)) = some (natD (f t)) := by rw [getK_nat, if_pos ht]
      rcases getK_pl f (f t) hs2 0 with ⟨g1, g2⟩ | ⟨i', r', g1, g2, g3⟩
      · have g1' : hasK (plN f 0 hs2) (.inl (f t : Int)) = false := by unfold hasK; rw [g1]; rfl
        have w1 : (S3.set p2 (.dic (plN f 0 (hs2 ++ [t])))).hp p1 = some (.lst (hs2.map natD)) := by rw [HD.set_ne (Ne.symm n21)]; exact j1
        have ep := putD_pl f g1
        simp_all only [encC, s1, s2, ht, decide_true, j1, j2, g1', plN_len, List.length_map, ep, w1]
        refine ⟨by omega, ⟨_, rfl⟩, by omega, hN4 _ _ ?_⟩
        have eh : hs2.map natD ++ [natD t] = (hs2 ++ [t]).map natD := by simp
        rw [eh]
        generalize hS6 : ((S3.set p2 (.dic (plN f 0 (hs2 ++ [t])))).set p1 (.lst ((hs2 ++ [t]).map natD))) = S6
        have x1 : S6.hp p1 = some (.lst ((hs2 ++ [t]).map natD)) := by rw [← hS6, HD.set_same]
        have x2 : S6.hp p2 = some (.dic (plN f 0 (hs2 ++ [t]))) := by rw [← hS6, HD.set_ne n21, HD.set_same]
        have x3 : S6.hp p3 = some (.lst (fr.map encR)) := by rw [← hS6, HD.set_ne n31, HD.set_ne n32]; exact j3
        have x4 : S6.hp p4 = some (.lst (cur.map encC)) := by rw [← hS6, HD.set_ne (Ne.symm n41), HD.set_ne (Ne.symm n42)]; exact j4
        have x5 : Up 0 S S6 := by rw [← hS6]; exact (j5.set z2).set hp1
        have g4 : getK (plN f 0 (hs2 ++ [t])) (.inl (f t : Int)) = some (natD hs2.length) := by
          rcases getK_pl f (f t) (hs2 ++ [t]) 0 with ⟨_, y2⟩ | ⟨i', r', y1, y2, y3⟩
          · exact (y2 (by simp)).elim
          · rw [y1, Nat.zero_add]
            by_cases hi' : i' < hs2.length
            · rw [List.getElem?_append_left hi'] at y2
              exact (g2 (List.mem_map.mpr ⟨r', List.mem_of_getElem? y2, y3⟩)).elim
            · have := (List.getElem?_eq_some_iff.mp y2).1
              simp at this
              rw [show i' = hs2.length by omega]
        simp_all only [s1, s2, ht, decide_true, x2, g4, x4, List.length_map]
        refine ⟨⟨_, rfl⟩, by omega, k3 _ _ ⟨hs2 ++ [t], cur ++ [some hs2.length], _, rfl, ?_, ?_, ?_, ?_, x5.set z4, j6.head j8 hn ht g2, by rw [List.length_append, j7]; rfl, ?_⟩⟩
        · rw [HD.set_ne n41]; exact x1
        · rw [HD.set_ne n42]; exact x2
        · rw [HD.set_ne n43]; exact x3
        · rw [HD.set_same, List.map_append]; rfl
        · rw [List.getElem?_append_left (List.getElem?_eq_some_iff.mp j8).1]; exact j8
      · rw [Nat.zero_add] at g1
        have g1' : hasK (plN f 0 hs2) (.inl (f t : Int)) = true := by unfold hasK; rw [g1]; rfl
        simp_all only [encC, s1, s2, ht, decide_true, j2, g1']
        refine hN4 _ _ ?_
        simp_all only [s1, s2, ht, decide_true, j2, g1, j4, List.length_map]
        refine ⟨⟨_, rfl⟩, by omega, ?_⟩
        have := skip (some i') (.inl ⟨t, i', r', by rw [hn], ht, rfl, g2, g3⟩) _ rfl
        rw [List.map_append] at this
        exact this
  · subst j0
    rw [List.length_map] at j7
    clear hN2 N2
    simp_all only [j3, j4, List.length_map]
    refine ⟨⟨_, rfl⟩, by omega, k (M.rows.length - (fr ++ [cur]).length) _ _ ?_ ⟨hs2, fr ++ [cur], _, _, rfl, ?_, ?_, ?_, j5.set z3, j6, fun r hr => ?_, rfl⟩⟩
    · simp; omega
    · rw [HD.set_ne (Ne.symm n31)]; exact j1
    · rw [HD.set_ne (Ne.symm n32)]; exact j2
    · rw [HD.set_same, List.map_append]; rfl
    · rcases List.mem_append.mp hr with h | h
      · exact hw r h
      · rw [List.mem_singleton.mp h, j7, r2]
end PM
end
section
/-! PS1: the law's smallest machine: heads of the parts, in the order of the first words. Plain. -/
namespace PS
open PySem PySem.Spec PyProof.Rows PD PM
def lex (p c q d : Nat) : Prop := p < q ∨ (p = q ∧ c < d)
/-- what is found of all states, with the items looked at up to a place -/
structure Bf (M : Mch) (fs : List Nat) (at' c : Nat) : Prop where
  nd : fs.Nodup
  z : fs[0]? = some 0
  lt : ∀ s ∈ fs, s < M.rows.length
  done : ∀ p d s t, lex p d at' c → fs[p]? = some s → M.nx s d = some t → t ∈ fs
  par : ∀ q s, fs[q]? = some s → 0 < q → ∃ p d t, lex p d at' c ∧ p < q ∧ fs[p]? = some t ∧ M.nx t d = some s ∧ ∀ p2 d2 t2 s2, lex p2 d2 p d → fs[p2]? = some t2 → M.nx t2 d2 = some s2 → ∃ q2, q2 < q ∧ fs[q2]? = some s2
theorem bf_0 {M : Mch} (ok : M.Ok) : Bf M [0] 0 0 where
  nd := by simp
  z := rfl
  lt := fun s h => by rw [List.mem_singleton.mp h]; have := ok.n1; omega
  done := fun p d s t h => by unfold lex at h; omega
  par := fun q s h hq => by
    have := (List.getElem?_eq_some_iff.mp h).1
    simp at this; omega
theorem Bf.skip {M : Mch} {fs : List Nat} {a c : Nat} (B : Bf M fs a c) {s : Nat} (hs : fs[a]? = some s) (h : ∀ t, M.nx s c = some t → t ∈ fs) : Bf M fs a (c + 1) where
  nd := B.nd
  z := B.z
  lt := B.lt
  done := fun p d s' t hl h1 h2 => by
    by_cases e : p = a ∧ d = c
    · obtain ⟨rfl, rfl⟩ := e
      rw [hs] at h1; cases h1
      exact h t h2
    · exact B.done p d s' t (by unfold lex at *; omega) h1 h2
  par := fun q s' h1 hq => by
    obtain ⟨p, d, t, g1, g2⟩ := B.par q s' h1 hq
    exact ⟨p, d, t, by unfold lex at *; omega, g2⟩
theorem Bf.add {M : Mch} (ok : M.Ok) {fs : List Nat} {a c : Nat} (B : Bf M fs a c) {s t : Nat} (hs : fs[a]? = some s) (h : M.nx s c = some t) (hn : t ∉ fs) : Bf M (fs ++ [t]) a (c + 1) := by
  have hal := (List.getElem?_eq_some_iff.mp hs).1
  have old : ∀ {p x}, p ≤ a → (fs ++ [t])[p]? = some x → fs[p]? = some x := fun {p x} hp e => by rw [List.getElem?_append_left (by omega)] at e; exact e
  refine ⟨?_, ?_, fun x hx => ?_, fun p d s' t' hl h1 h2 => ?_, fun q s' h1 hq => ?_⟩
  · rw [List.nodup_append]
    exact ⟨B.nd, by simp, fun a ha b hb e => hn (by rw [List.mem_singleton.mp hb] at e; exact e ▸ ha)⟩
  · rw [List.getElem?_append_left (by omega)]; exact B.z
  · rcases List.mem_append.mp hx with h1 | h1
    · exact B.lt x h1
    · rw [List.mem_singleton.mp h1]; exact M.nx_lt ok h
  · have hp : p ≤ a := by unfold lex at hl; omega
    have h1 := old hp h1
    by_cases e : p = a ∧ d = c
    · obtain ⟨rfl, rfl⟩ := e
      rw [hs] at h1; cases h1
      rw [h] at h2; cases h2
      simp
    · exact List.mem_append_left _ (B.done p d s' t' (by unfold lex at *; omega) h1 h2)
  · by_cases hql : q < fs.length
    · rw [List.getElem?_append_left hql] at h1
      obtain ⟨p, d, t', g1, g2, g3, g4, g5⟩ := B.par q s' h1 hq
      refine ⟨p, d, t', by unfold lex at *; omega, g2, by rw [List.getElem?_append_left (by omega)]; exact g3, g4, fun p2 d2 t2 s2 k1 k2 k3 => ?_⟩
      have hp2 : p2 ≤ a := by unfold lex at *; omega
      obtain ⟨q2, k4, k5⟩ := g5 p2 d2 t2 s2 k1 (old hp2 k2) k3
      exact ⟨q2, k4, by rw [List.getElem?_append_left (by omega)]; exact k5⟩
    · have hqe : q = fs.length := by
        have := (List.getElem?_eq_some_iff.mp h1).1
        rw [List.length_append] at this
        have h9 : ([t] : List Nat).length = 1 := rfl
        omega
      subst hqe
      rw [List.getElem?_append_right (Nat.le_refl _), Nat.sub_self] at h1
      cases h1
      refine ⟨a, c, s, .inr ⟨rfl, by omega⟩, by omega, by rw [List.getElem?_append_left (by omega)]; exact hs, h, fun p2 d2 t2 s2 k1 k2 k3 => ?_⟩
      have hp2 : p2 ≤ a := by unfold lex at *; omega
      obtain ⟨q2, hq2⟩ := List.mem_iff_getElem?.mp (B.done p2 d2 t2 s2 k1 (old hp2 k2) k3)
      exact ⟨q2, (List.getElem?_eq_some_iff.mp hq2).1, by rw [List.getElem?_append_left (List.getElem?_eq_some_iff.mp hq2).1]; exact hq2⟩
theorem Bf.next {M : Mch} (ok : M.Ok) {fs : List Nat} {a c : Nat} (B : Bf M fs a c) (hc : M.L ≤ c) : Bf M fs (a + 1) 0 where
  nd := B.nd
  z := B.z
  lt := B.lt
  done := fun p d s t hl h1 h2 => B.done p d s t (by
    have := nx_c ok h2
    unfold lex at *; omega) h1 h2
  par := fun q s h1 hq => by
    obtain ⟨p, d, t, g1, g2, g3, g4, g5⟩ := B.par q s h1 hq
    exact ⟨p, d, t, by unfold lex at *; omega, g2, g3, g4, g5⟩
/-- all states found -/
structure All0 (M : Mch) (ms : List Nat) : Prop where
  nd : ms.Nodup
  z : ms[0]? = some 0
  lt : ∀ s ∈ ms, s < M.rows.length
  cl : ∀ s ∈ ms, ∀ c t, M.nx s c = some t → t ∈ ms
  par : ∀ q s, ms[q]? = some s → 0 < q → ∃ p d t, p < q ∧ ms[p]? = some t ∧ M.nx t d = some s ∧ ∀ p2 d2 t2 s2, lex p2 d2 p d → ms[p2]? = some t2 → M.nx t2 d2 = some s2 → ∃ q2, q2 < q ∧ ms[q2]? = some s2
theorem Bf.all {M : Mch} {fs : List Nat} {a c : Nat} (B : Bf M fs a c) (ha : fs.length ≤ a) : All0 M fs where
  nd := B.nd
  z := B.z
  lt := B.lt
  cl := fun s hs d t h => by
    obtain ⟨p, hp⟩ := List.mem_iff_getElem?.mp hs
    have := (List.getElem?_eq_some_iff.mp hp).1
    exact B.done p d s t (by unfold lex; omega) hp h
  par := fun q s h hq => by
    obtain ⟨p, d, t, _, g⟩ := B.par q s h hq
    exact ⟨p, d, t, g⟩
/-! ### heads -/
def hstep (r : Nat → Nat → Bool) (hs : List Nat) (s : Nat) : List Nat := if hs.any (fun h => r h s) then hs else hs ++ [s]
def heads (r : Nat → Nat → Bool) (st : List Nat) : List Nat := st.foldl (hstep r) []
theorem heads_snoc (r : Nat → Nat → Bool) (st : List Nat) (s : Nat) : heads r (st ++ [s]) = hstep r (heads r st) s := by
  unfold heads
  rw [List.foldl_append]; rfl
theorem snoc_ind {α : Type} {P : List α → Prop} (h0 : P []) (h1 : ∀ l x, P l → P (l ++ [x])) (l : List α) : P l := by
  have : ∀ n (l : List α), l.length = n → P l := by
    intro n
    induction n with
    | zero => intro l hl; rw [List.length_eq_zero_iff.mp hl]; exact h0
    | succ n ih =>
      intro l hl
      have hn : l ≠ [] := fun e => by rw [e] at hl; cases hl
      rw [← List.dropLast_concat_getLast hn]
      exact h1 _ _ (ih _ (by rw [List.length_dropLast, hl]; rfl))
  exact this _ l rfl
theorem heads_sub (r : Nat → Nat → Bool) (st : List Nat) : (heads r st).Sublist st := by
  refine snoc_ind (P := fun st => (heads r st).Sublist st) (List.Sublist.refl _) (fun l x ih => ?_) st
  rw [heads_snoc]
  unfold hstep
  split
  · exact ih.trans (List.sublist_append_left _ _)
  · exact ih.append (List.Sublist.refl _)
theorem heads_apart (r : Nat → Nat → Bool) (st : List Nat) : (heads r st).Pairwise fun a b => r a b = false := by
  refine snoc_ind (P := fun st => (heads r st).Pairwise fun a b => r a b = false) List.Pairwise.nil (fun l x ih => ?_) st
  rw [heads_snoc]
  unfold hstep
  split
  · exact ih
  · rename_i h
    rw [List.pairwise_append]
    refine ⟨ih, List.pairwise_singleton _ _, fun a ha b hb => ?_⟩
    rw [List.mem_singleton.mp hb]
    cases e : r a x with
    | false => rfl
    | true => exact absurd (List.any_eq_true.mpr ⟨a, ha, e⟩) h
theorem heads_cov {r : Nat → Nat → Bool} {pos : Nat → Nat} (st : List Nat) (rf : ∀ s ∈ st, r s s = true) (mono : st.Pairwise fun a b => pos a < pos b) : ∀ s ∈ st, ∃ h ∈ heads r st, r h s = true ∧ pos h ≤ pos s := by
  revert rf mono
  refine snoc_ind (P := fun st => (∀ s ∈ st, r s s = true) → (st.Pairwise fun a b => pos a < pos b) → ∀ s ∈ st, ∃ h ∈ heads r st, r h s = true ∧ pos h ≤ pos s) (fun _ _ s h => nomatch h) (fun l x ih rf mono s hs => ?_) st
  rw [List.pairwise_append] at mono
  have ih := ih (fun s hs => rf s (List.mem_append_left _ hs)) mono.1
  rw [heads_snoc]
  rcases List.mem_append.mp hs with h1 | h1
  · obtain ⟨h, g1, g2, g3⟩ := ih s h1
    refine ⟨h, ?_, g2, g3⟩
    unfold hstep
    split
    · exact g1
    · exact List.mem_append_left _ g1
  · rw [List.mem_singleton.mp h1]
    unfold hstep
    split
    · rename_i hy
      obtain ⟨h, g1, g2⟩ := List.any_eq_true.mp hy
      exact ⟨h, g1, g2, Nat.le_of_lt (mono.2.2 h ((heads_sub r l).subset g1) x (List.mem_singleton.mpr rfl))⟩
    · exact ⟨x, by simp, rf x (by simp), Nat.le_refl _⟩
end PS
end
section
/-! PS2: the machine of the heads is the smallest one. Plain. -/
namespace PS
open PySem PySem.Spec PyProof.Rows PD PM
theorem idx_at : ∀ {ms : List Nat} {q s : Nat}, ms.Nodup → ms[q]? = some s → ms.idxOf s = q
  | [], _, _, _, h => by simp at h
  | x :: ms, 0, s, _, h => by
    cases h
    simp
  | x :: ms, q + 1, s, hn, h => by
    have hm : s ∈ ms := List.mem_of_getElem? (l := ms) (i := q) h
    have hx : x ≠ s := fun e => (List.nodup_cons.mp hn).1 (e ▸ hm)
    have hb : (x == s) = false := by simpa using hx
    rw [List.idxOf_cons, idx_at (List.nodup_cons.mp hn).2 (q := q) h, hb]
    rfl
theorem pos_mono {ms : List Nat} (h : ms.Nodup) : ms.Pairwise fun a b => ms.idxOf a < ms.idxOf b := by
  rw [List.pairwise_iff_getElem]
  intro i j hi hj hij
  rw [idx_at h (List.getElem?_eq_getElem hi), idx_at h (List.getElem?_eq_getElem hj)]
  exact hij
def clsF (r : Nat → Nat → Bool) (hs : List Nat) (s : Nat) : Nat := hs.findIdx fun h => r h s
def cellF (r : Nat → Nat → Bool) (st hs : List Nat) : Option Nat → Option Nat
  | some t => if t ∈ st then some (clsF r hs t) else none
  | none => none
def rowsF (M : Mch) (r : Nat → Nat → Bool) (st hs : List Nat) : List (List (Option Nat)) := hs.map fun h => (List.range M.L).map fun c => cellF r st hs (M.nx h c)
theorem rowsF_at {M : Mch} {r : Nat → Nat → Bool} {st hs : List Nat} {i h : Nat} (hi : hs[i]? = some h) {c : Nat} (hc : c < M.L) : nxR (rowsF M r st hs) i c = cellF r st hs (M.nx h c) := by
  unfold nxR rowsF
  rw [List.getElem?_map, hi]
  simp [hc]
theorem rowsF_in {M : Mch} {r : Nat → Nat → Bool} {st hs : List Nat} {i c j : Nat} (h : nxR (rowsF M r st hs) i c = some j) : ∃ h, hs[i]? = some h ∧ c < M.L ∧ cellF r st hs (M.nx h c) = some j := by
  cases hi : hs[i]? with
  | none =>
    unfold nxR rowsF at h
    rw [List.getElem?_map, hi] at h
    cases h
  | some x =>
    by_cases hc : c < M.L
    · rw [rowsF_at hi hc] at h
      exact ⟨x, rfl, hc, h⟩
    · unfold nxR rowsF at h
      rw [List.getElem?_map, hi] at h
      simp [hc] at h
theorem cellF_some {r : Nat → Nat → Bool} {st hs : List Nat} {x : Option Nat} {j : Nat} (h : cellF r st hs x = some j) : ∃ t, x = some t ∧ t ∈ st ∧ clsF r hs t = j := by
  cases x with
  | none => cases h
  | some t =>
    have h : (if t ∈ st then some (clsF r hs t) else none) = some j := h
    by_cases ht : t ∈ st
    · rw [if_pos ht] at h
      exact ⟨t, rfl, ht, Option.some.inj h⟩
    · rw [if_neg ht] at h; cases h
section
variable {M : Mch} {ms : List Nat} {lv : Nat → Bool} {r : Nat → Nat → Bool}
/-- what is known of the states and of how the law holds them apart -/
structure Prt (M : Mch) (ms : List Nat) (lv : Nat → Bool) (r : Nat → Nat → Bool) : Prop where
  ok : M.Ok
  A : All0 M ms
  live : ∀ s ∈ ms, (lv s = true ↔ M.live s)
  h0 : lv 0 = true
  req : ∀ s ∈ ms.filter lv, ∀ t ∈ ms.filter lv, (r s t = true ↔ M.req s t)
theorem Prt.cls (P : Prt M ms lv r) {s : Nat} (hs : s ∈ ms.filter lv) : ∃ h, (heads r (ms.filter lv))[clsF r (heads r (ms.filter lv)) s]? = some h ∧ M.req h s ∧ ms.idxOf h ≤ ms.idxOf s := by
  have rf : ∀ s ∈ ms.filter lv, r s s = true := fun s hs => (P.req s hs s hs).mpr fun _ => rfl
  have mono : (ms.filter lv).Pairwise fun a b => ms.idxOf a < ms.idxOf b := (pos_mono P.A.nd).filter _
  obtain ⟨h, g1, g2, g3⟩ := heads_cov (pos := fun x => ms.idxOf x) _ rf mono s hs
  have hl : clsF r (heads r (ms.filter lv)) s < (heads r (ms.filter lv)).length := List.findIdx_lt_length_of_exists ⟨h, g1, g2⟩
  have hx := List.findIdx_getElem (w := hl)
  have hm := (heads_sub r (ms.filter lv)).subset (List.getElem_mem hl)
  refine ⟨_, List.getElem?_eq_getElem hl, (P.req _ hm s hs).mp hx, ?_⟩
  have same : (heads r (ms.filter lv))[clsF r (heads r (ms.filter lv)) s] = h := by
    obtain ⟨k, hk⟩ := List.mem_iff_getElem.mp g1
    obtain ⟨hk, ek⟩ := hk
    have ap := List.pairwise_iff_getElem.mp (heads_apart r (ms.filter lv))
    have hh := (heads_sub r (ms.filter lv)).subset g1
    have rq : M.req (heads r (ms.filter lv))[clsF r (heads r (ms.filter lv)) s] h := fun w => ((P.req _ hm s hs).mp hx w).trans ((P.req _ hh s hs).mp g2 w).symm
    rcases Nat.lt_trichotomy (clsF r (heads r (ms.filter lv)) s) k with e | e | e
    · have := ap _ _ hl hk e
      rw [ek] at this
      rw [(P.req _ hm h hh).mpr rq] at this
      cases this
    · subst e; exact ek
    · have := ap _ _ hk hl e
      rw [ek, (P.req h hh _ hm).mpr fun w => (rq w).symm] at this
      cases this
  rw [same]
  exact g3
theorem Prt.uniq (P : Prt M ms lv r) {i h s : Nat} (hi : (heads r (ms.filter lv))[i]? = some h) (hs : s ∈ ms.filter lv) (q : M.req h s) : clsF r (heads r (ms.filter lv)) s = i := by
  obtain ⟨h', g1, g2, _⟩ := P.cls hs
  have hm := (heads_sub r (ms.filter lv)).subset (List.mem_of_getElem? hi)
  have hm' := (heads_sub r (ms.filter lv)).subset (List.mem_of_getElem? g1)
  have ap := List.pairwise_iff_getElem.mp (heads_apart r (ms.filter lv))
  obtain ⟨l1, e1⟩ := List.getElem?_eq_some_iff.mp hi
  obtain ⟨l2, e2⟩ := List.getElem?_eq_some_iff.mp g1
  have rq : M.req h h' := fun w => (q w).trans (g2 w).symm
  rcases Nat.lt_trichotomy (clsF r (heads r (ms.filter lv)) s) i with e | e | e
  · have := ap _ _ l2 l1 e
    rw [e1, e2, (P.req _ hm' _ hm).mpr fun w => (rq w).symm] at this
    cases this
  · exact e
  · have := ap _ _ l1 l2 e
    rw [e1, e2, (P.req _ hm _ hm').mpr rq] at this
    cases this
theorem Prt.closed (P : Prt M ms lv r) : Closed M (ms.filter lv) where
  nd := P.A.nd.filter _
  lt := fun s h => P.A.lt s (List.mem_filter.mp h).1
  lv := fun s h => (P.live s (List.mem_filter.mp h).1).mp (List.mem_filter.mp h).2
  cl := fun s h c t e l => by
    have := P.A.cl s (List.mem_filter.mp h).1 c t e
    exact List.mem_filter.mpr ⟨this, (P.live t this).mpr l⟩
theorem Prt.first (P : Prt M ms lv r) : (heads r (ms.filter lv))[0]? = some 0 := by
  obtain ⟨xs, e⟩ : ∃ xs, ms = 0 :: xs := by
    have := P.A.z
    cases hm : ms with
    | nil => rw [hm] at this; cases this
    | cons x xs => rw [hm] at this; cases this; exact ⟨xs, rfl⟩
  have e2 : ms.filter lv = 0 :: xs.filter lv := by rw [e, List.filter_cons, if_pos P.h0]
  rw [e2]
  have key : ∀ (l hs : List Nat), hs[0]? = some 0 → (l.foldl (hstep r) hs)[0]? = some 0 := by
    intro l
    induction l with
    | nil => intro hs h; exact h
    | cons x l ih =>
      intro hs h
      rw [List.foldl_cons]
      refine ih _ ?_
      unfold hstep
      split
      · exact h
      · rw [List.getElem?_append_left (List.getElem?_eq_some_iff.mp h).1]; exact h
  exact key _ [0] rfl
theorem Prt.hs_mono (P : Prt M ms lv r) {i j h k : Nat} (hi : (heads r (ms.filter lv))[i]? = some h) (hj : (heads r (ms.filter lv))[j]? = some k) : i < j ↔ ms.idxOf h < ms.idxOf k := by
  have mono : (heads r (ms.filter lv)).Pairwise fun a b => ms.idxOf a < ms.idxOf b := ((pos_mono P.A.nd).filter _).sublist (heads_sub r _)
  have mp := List.pairwise_iff_getElem.mp mono
  obtain ⟨l1, e1⟩ := List.getElem?_eq_some_iff.mp hi
  obtain ⟨l2, e2⟩ := List.getElem?_eq_some_iff.mp hj
  constructor
  · intro h
    have := mp _ _ l1 l2 h
    rw [e1, e2] at this
    exact this
  · intro h
    rcases Nat.lt_trichotomy i j with e | e | e
    · exact e
    · subst e
      rw [hi] at hj; cases hj; omega
    · have := mp _ _ l2 l1 e
      rw [e1, e2] at this
      omega
theorem Prt.num (P : Prt M ms lv r) : Num (rowsF M r (ms.filter lv) (heads r (ms.filter lv))) (heads r (ms.filter lv)).length := by
  intro j hj0 hjl
  have hj := List.getElem?_eq_getElem hjl
  generalize (heads r (ms.filter lv))[j] = k at hj
  have hk := (heads_sub r (ms.filter lv)).subset (List.mem_of_getElem? hj)
  have hkm := (List.mem_filter.mp hk).1
  have hkl := (P.live k hkm).mp (List.mem_filter.mp hk).2
  obtain ⟨q, hq⟩ := List.mem_iff_getElem?.mp hkm
  have pk := idx_at P.A.nd hq
  have hq0 : 0 < q := by
    have := (P.hs_mono P.first hj).mp hj0
    omega
  obtain ⟨p, d, t, g1, g2, g3, g4⟩ := P.A.par q k hq hq0
  have htm := List.mem_of_getElem? g2
  have hts : t ∈ ms.filter lv := List.mem_filter.mpr ⟨htm, (P.live t htm).mpr (live_nx g3 hkl)⟩
  have pt := idx_at P.A.nd g2
  obtain ⟨h, i1, i2, i3⟩ := P.cls hts
  generalize hi : clsF r (heads r (ms.filter lv)) t = i at i1
  have hij : i < j := (P.hs_mono i1 hj).mpr (by omega)
  have hdL := nx_c P.ok g3
  have hcell : nxR (rowsF M r (ms.filter lv) (heads r (ms.filter lv))) i d = some j := by
    rw [rowsF_at i1 hdL]
    obtain ⟨w, hw⟩ := hkl
    have hx : M.accF h (d :: w) = true := by rw [i2, accF_cons, g3]; exact hw
    obtain ⟨s', e1, e2⟩ := live_next hx
    have hhm := (heads_sub r (ms.filter lv)).subset (List.mem_of_getElem? i1)
    have hs' := P.closed.cl h hhm d s' e1 ⟨w, e2⟩
    have rq : M.req k s' := fun v => by
      have := i2 (d :: v)
      rw [accF_cons, accF_cons, e1, g3] at this
      exact this.symm
    rw [e1]
    show (if s' ∈ ms.filter lv then some (clsF r (heads r (ms.filter lv)) s') else none) = some j
    rw [if_pos hs', P.uniq hj hs' rq]
  -- the least such place
  obtain ⟨n, hn1, hn2⟩ : ∃ n, (∃ i' c', n = i' * M.L + c' ∧ c' < M.L ∧ nxR (rowsF M r (ms.filter lv) (heads r (ms.filter lv))) i' c' = some j) ∧ ∀ m, m < n → ¬ ∃ i' c', m = i' * M.L + c' ∧ c' < M.L ∧ nxR (rowsF M r (ms.filter lv) (heads r (ms.filter lv))) i' c' = some j := by
    have ex : ∃ n i' c', n = i' * M.L + c' ∧ c' < M.L ∧ nxR (rowsF M r (ms.filter lv) (heads r (ms.filter lv))) i' c' = some j := ⟨_, i, d, rfl, hdL, hcell⟩
    have key : ∀ n, (∃ i' c', n = i' * M.L + c' ∧ c' < M.L ∧ nxR (rowsF M r (ms.filter lv) (heads r (ms.filter lv))) i' c' = some j) → ∃ m, (∃ i' c', m = i' * M.L + c' ∧ c' < M.L ∧ nxR (rowsF M r (ms.filter lv) (heads r (ms.filter lv))) i' c' = some j) ∧ ∀ m', m' < m → ¬ ∃ i' c', m' = i' * M.L + c' ∧ c' < M.L ∧ nxR (rowsF M r (ms.filter lv) (heads r (ms.filter lv))) i' c' = some j := by
      intro n
      induction n using Nat.strongRecOn with
      | ind n ih =>
        intro hn
        by_cases h : ∃ m, m < n ∧ ∃ i' c', m = i' * M.L + c' ∧ c' < M.L ∧ nxR (rowsF M r (ms.filter lv) (heads r (ms.filter lv))) i' c' = some j
        · obtain ⟨m, hm, h⟩ := h
          exact ih m hm h
        · exact ⟨n, hn, fun m hm hx => h ⟨m, hm, hx⟩⟩
    obtain ⟨n, hn⟩ := ex
    exact key n hn
  obtain ⟨i0, c0, en, hc0, h0⟩ := hn1
  have code : ∀ {a b a' b' : Nat}, b < M.L → b' < M.L → lex a b a' b' → a * M.L + b < a' * M.L + b' := fun {a b a' b'} hb hb' hl => by
    rcases hl with h | ⟨rfl, h⟩
    · have := Nat.mul_le_mul_right M.L (show a + 1 ≤ a' by omega)
      rw [Nat.add_mul, Nat.one_mul] at this
      omega
    · omega
  have lexle : ∀ {a b a' b' : Nat}, b < M.L → b' < M.L → a * M.L + b ≤ a' * M.L + b' → lex a b a' b' ∨ (a = a' ∧ b = b') := fun {a b a' b'} hb hb' hl => by
    by_cases h1 : lex a b a' b'
    · exact .inl h1
    · right
      by_cases h2 : a = a' ∧ b = b'
      · exact h2
      · have := code hb' hb (a := a') (b := b') (a' := a) (b' := b) (by unfold lex at *; omega)
        omega
  have h0i : lex i0 c0 i d ∨ (i0 = i ∧ c0 = d) := by
    refine lexle hc0 hdL ?_
    rw [← en]
    exact Nat.le_of_not_lt fun z => hn2 _ z ⟨i, d, rfl, hdL, hcell⟩
  refine ⟨i0, c0, by unfold lex at h0i; omega, h0, fun i' c' j' hl hx => ?_⟩
  obtain ⟨h', k1, k2, k3⟩ := rowsF_in hx
  obtain ⟨s2, k4, k5, k6⟩ := cellF_some k3
  have hne : j' ≠ j := fun e => by
    subst e
    exact hn2 _ (by rw [en]; exact code k2 hc0 hl) ⟨i', c', rfl, k2, hx⟩
  refine Nat.lt_of_not_le fun hle => ?_
  -- earlier in the search
  have hm' := (heads_sub r (ms.filter lv)).subset (List.mem_of_getElem? k1)
  obtain ⟨p', hp'⟩ := List.mem_iff_getElem?.mp (List.mem_filter.mp hm').1
  have pp := idx_at P.A.nd hp'
  have hlt : lex p' c' p d := by
    by_cases e : i' = i
    · subst e
      rw [i1] at k1; cases k1
      unfold lex at *
      omega
    · have h1 : i' < i := by unfold lex at *; omega
      have := (P.hs_mono k1 i1).mp h1
      left; omega
  obtain ⟨q2, z1, z2⟩ := g4 p' c' h' s2 hlt hp' k4
  have p2 := idx_at P.A.nd z2
  obtain ⟨h2, y1, _, y3⟩ := P.cls k5
  rw [k6] at y1
  have := (P.hs_mono hj y1).mp (by omega)
  omega
theorem Prt.shi (P : Prt M ms lv r) : ShI M (clsF r (heads r (ms.filter lv))) (ms.filter lv) (heads r (ms.filter lv)) (rowsF M r (ms.filter lv) (heads r (ms.filter lv))) where
  h0 := P.first
  sub := fun h hh => (heads_sub r _).subset hh
  nd := by
    have e : (heads r (ms.filter lv)).map (clsF r (heads r (ms.filter lv))) = List.range (heads r (ms.filter lv)).length := by
      apply List.ext_getElem?
      intro i
      rw [List.getElem?_map]
      cases h : (heads r (ms.filter lv))[i]? with
      | none => rw [List.getElem?_eq_none (by rw [List.length_range]; exact List.getElem?_eq_none_iff.mp h)]; rfl
      | some x =>
        have hl := (List.getElem?_eq_some_iff.mp h).1
        rw [Option.map_some, P.uniq h ((heads_sub r _).subset (List.mem_of_getElem? h)) fun _ => rfl, List.getElem?_range hl]
    rw [e]
    exact List.nodup_range
  rel := fun i row h hr hh c hc => by
    unfold rowsF at hr
    rw [List.getElem?_map, hh] at hr
    cases hr
    rw [List.length_map, List.length_range] at hc
    have e : ((((List.range M.L).map fun c => cellF r (ms.filter lv) (heads r (ms.filter lv)) (M.nx h c))[c]?).bind id) = cellF r (ms.filter lv) (heads r (ms.filter lv)) (M.nx h c) := by simp [hc]
    rw [e]
    cases hx : M.nx h c with
    | none => exact .inr ⟨(fun t ht => nomatch ht), rfl⟩
    | some t =>
      by_cases ht : t ∈ ms.filter lv
      · obtain ⟨h', g1, g2, _⟩ := P.cls ht
        refine .inl ⟨t, _, h', rfl, ht, if_pos ht, g1, ?_⟩
        have hm' := (heads_sub r (ms.filter lv)).subset (List.mem_of_getElem? g1)
        exact P.uniq g1 hm' fun _ => rfl
      · refine .inr ⟨fun t' e => ?_, if_neg ht⟩
        cases e; exact ht
  num := P.num
  len := by unfold rowsF; rw [List.length_map]; exact Nat.le_refl _
theorem Prt.same (P : Prt M ms lv r) : ∀ s ∈ ms.filter lv, ∀ t ∈ ms.filter lv, clsF r (heads r (ms.filter lv)) s = clsF r (heads r (ms.filter lv)) t ↔ M.req s t := fun s hs t ht => by
  obtain ⟨h, g1, g2, _⟩ := P.cls hs
  obtain ⟨h', k1, k2, _⟩ := P.cls ht
  constructor
  · intro e
    rw [e, k1] at g1
    cases g1
    exact fun w => (g2 w).symm.trans (k2 w)
  · intro e
    exact (P.uniq g1 ht fun w => (g2 w).trans (e w)).symm
/-- the law's smallest machine -/
theorem Prt.least (P : Prt M ms lv r) : (mOf M (heads r (ms.filter lv)) (rowsF M r (ms.filter lv) (heads r (ms.filter lv)))).Ok ∧ Smallest (mOf M (heads r (ms.filter lv)) (rowsF M r (ms.filter lv) (heads r (ms.filter lv)))) ∧
    ∀ w, (mOf M (heads r (ms.filter lv)) (rowsF M r (ms.filter lv) (heads r (ms.filter lv)))).acc w = M.acc w := by
  obtain ⟨a, b, c, _⟩ := ShI.all P.ok P.closed P.same P.shi (by unfold rowsF; rw [List.length_map]) (fun r hr => by
    unfold rowsF at hr
    obtain ⟨h, _, rfl⟩ := List.mem_map.mp hr
    rw [List.length_map, List.length_range])
  exact ⟨a, .inl b, c⟩
end
end PS
end
section
namespace PS
open PySem PySem.Spec PyProof.Rows L2 PD
def rd__law_met : TSD :=
  sSeqD (sPar2 1 2 (tConsD (tLstR (tConsD (tCD (.int 0)) (tNilD))) (tConsD (tCD (.int 0)) (tNilD))))
  (sSeqD (sWhileD (tTst (tBin (rCmpI fLt) (tSlot 2) (tCallD rLenD (tConsD (tSlot 1) (tNilD))))) (sSeqD (sForD (iAnyD (tBin rIxX (tSlot 0) (tBin rIxX (tSlot 1) (tSlot 2)))) (gNameD 3) (sIfD (tAndD (tTst (tUnD rNotN (tSlot 3))) (tTst (tBin (rInZ true) (tSlot 3) (tSlot 1)))) (sDropD (tMethL rAppD (tSlot 1) (tConsD (tSlot 3) (tNilD)))) (sNextD)))
  (sAsgD (tBin rAddD (tSlot 2) (tCD (.int 1))) (gNameD 2))))
  (sRetD (tSlot 1)))
def rd__law_open (w : World) : TSD :=
  sSeqD (sAsgD (tTupD (tConsD (tCallD rDictP (tConsD (tLcV (iRng1D (tConsD (tCallD (rLenW w) (tConsD (tSlot 0) (tNilD))) (tNilD))) (gNameD 5) (tTst (tBin (rIxW w) (tSlot 1) (tSlot 5))) (tTupD (tConsD (tSlot 5) (tConsD (tCD (.bl true)) (tNilD)))) [5]) (tNilD))) (tConsD (tUnD rNeg (tCD (.int 1))) (tNilD)))) (gTupD 2 (gConsD (gNameD 2) (gConsD (gNameD 3) (gNilD)))))
  (sSeqD (sWhileD (tTst (tBin rNeD (tCallD (rLenW w) (tConsD (tSlot 2) (tNilD))) (tSlot 3))) (sSeqD (sAsgD (tCallD (rLenW w) (tConsD (tSlot 2) (tNilD))) (gNameD 3))
  (sForD (iRng1D (tConsD (tCallD (rLenW w) (tConsD (tSlot 0) (tNilD))) (tNilD))) (gNameD 4) (sSeqD (sAsgD (tBin rSubD (tBin rSubD (tCallD (rLenW w) (tConsD (tSlot 0) (tNilD))) (tCD (.int 1))) (tSlot 4)) (gNameD 5))
  (sIfD (tAndD (tTst (tBin (rInW w true) (tSlot 5) (tSlot 2))) (tTst (tBin rNeD (tLcV (iAnyD (tBin (rIxW w) (tSlot 0) (tSlot 5))) (gNameD 6) (tTst (tBin (rInW w false) (tSlot 6) (tSlot 2))) (tSlot 6) [6]) (tLstV (tNilD))))) (sAsgD (tCD (.bl true)) (gSubW w (tSlot 2) (tSlot 5))) (sNextD))))))
  (sRetD (tSlot 2)))
def rd__law_least (w : World) (sp__law_open : SpD) (sp__law_met : SpD) (sp__law_are_apart : SpD) : TSD :=
  sSeqD (sAsgD (tCallD sp__law_open (tConsD (tSlot 1) (tConsD (tSlot 2) (tNilD)))) (gNameD 3))
  (sSeqD (sIfD (tTst (tBin (rInW w true) (tCD (.int 0)) (tSlot 3))) (sRetD (tTupD (tConsD (tSlot 0) (tConsD (tTupD (tConsD (tBin rMulD (tTupD (tConsD (tCD .non) (tNilD))) (tSlot 0)) (tNilD))) (tConsD (tTupD (tConsD (tCD (.bl false)) (tNilD))) (tNilD)))))) (sNextD))
  (sSeqD (sAsgD (tLcV (iAnyD (tCallD sp__law_met (tConsD (tSlot 1) (tNilD)))) (gNameD 10) (tTst (tBin (rInW w false) (tSlot 10) (tSlot 3))) (tSlot 10) [10]) (gNameD 4))
  (sSeqD (sAsgD (tTupD (tConsD (tDicW w) (tConsD (tUnD rNeg (tCD (.int 1))) (tNilD)))) (gTupD 2 (gConsD (gNameD 5) (gConsD (gNameD 6) (gNilD)))))
  (sSeqD (sWhileD (tTst (tBin rNeD (tCallD (rLenW w) (tConsD (tSlot 5) (tNilD))) (tSlot 6))) (sSeqD (sAsgD (tCallD (rLenW w) (tConsD (tSlot 5) (tNilD))) (gNameD 6))
  (sForD (iAnyD (tSlot 4)) (gNameD 7) (sForD (iAnyD (tSlot 4)) (gNameD 8) (sIfD (tAndD (tTst (tBin (rInW w true) (tTupD (tConsD (tSlot 7) (tConsD (tSlot 8) (tNilD)))) (tSlot 5))) (tTst (tCallD sp__law_are_apart (tConsD (tSlot 1) (tConsD (tSlot 2) (tConsD (tSlot 3) (tConsD (tSlot 5) (tConsD (tTupD (tConsD (tSlot 7) (tConsD (tSlot 8) (tNilD)))) (tNilD))))))))) (sAsgD (tCD (.bl true)) (gSubW w (tSlot 5) (tTupD (tConsD (tSlot 7) (tConsD (tSlot 8) (tNilD)))))) (sNextD))))))
  (sSeqD (sAsgD (tLstR (tNilD)) (gNameD 9))
  (sSeqD (sForD (iAnyD (tSlot 4)) (gNameD 10) (sIfD (tTst (tBin rEqD (tLcV (iAnyD (tSlot 9)) (gNameD 12) (tTst (tBin (rInW w true) (tTupD (tConsD (tSlot 12) (tConsD (tSlot 10) (tNilD)))) (tSlot 5))) (tSlot 12) [12]) (tLstV (tNilD)))) (sDropD (tMethL rAppD (tSlot 9) (tConsD (tSlot 10) (tNilD)))) (sNextD)))
  (sSeqD (sAsgD (tLstR (tNilD)) (gNameD 11))
  (sSeqD (sForD (iAnyD (tSlot 9)) (gNameD 12) (sSeqD (sAsgD (tLstR (tNilD)) (gNameD 13))
  (sSeqD (sForD (iAnyD (tBin (rIxW w) (tSlot 1) (tSlot 12))) (gNameD 14) (sSeqD (sAsgD (tLcV (iRng1D (tConsD (tCallD (rLenW w) (tConsD (tSlot 9) (tNilD))) (tNilD))) (gNameD 16) (tAndD (tTst (tBin (rInW w false) (tSlot 14) (tSlot 3))) (tTst (tBin (rInW w true) (tTupD (tConsD (tBin (rIxW w) (tSlot 9) (tSlot 16)) (tConsD (tSlot 14) (tNilD)))) (tSlot 5)))) (tSlot 16) [16]) (gNameD 15))
  (sDropD (tMethL rAppD (tSlot 13) (tConsD (tIfD (tTst (tBin rNeD (tSlot 15) (tLstV (tNilD)))) (tBin (rIxW w) (tSlot 15) (tCD (.int 0))) (tCD .non)) (tNilD))))))
  (sDropD (tMethL rAppD (tSlot 11) (tConsD (tCallD rTupleD (tConsD (tSlot 13) (tNilD))) (tNilD)))))))
  (sRetD (tTupD (tConsD (tSlot 0) (tConsD (tCallD rTupleD (tConsD (tSlot 11) (tNilD))) (tConsD (tCallD rTupleD (tConsD (tLcV (iAnyD (tSlot 9)) (gNameD 12) (tYesD) (tCallD rBoolD (tConsD (tBin (rIxW w) (tSlot 2) (tSlot 12)) (tNilD))) [12]) (tNilD))) (tNilD))))))))))))))
def rd__law_are_apart (w : World) : TSD :=
  sSeqD (sAsgD (tSlot 4) (gTupD 2 (gConsD (gNameD 5) (gConsD (gNameD 6) (gNilD)))))
  (sSeqD (sIfD (tTst (tBin rNeD (tBin (rIxW w) (tSlot 1) (tSlot 5)) (tBin (rIxW w) (tSlot 1) (tSlot 6)))) (sRetD (tCD (.bl true))) (sNextD))
  (sSeqD (sForD (iZipD (tConsD (tBin (rIxW w) (tSlot 0) (tSlot 5)) (tConsD (tBin (rIxW w) (tSlot 0) (tSlot 6)) (tNilD)))) (gTupD 2 (gConsD (gNameD 7) (gConsD (gNameD 8) (gNilD)))) (sIfD (tOrD (tTst (tBin rNeD (tBin (rInW w false) (tSlot 7) (tSlot 2)) (tBin (rInW w false) (tSlot 8) (tSlot 2)))) (tAndD (tTst (tBin (rInW w false) (tSlot 7) (tSlot 2))) (tTst (tBin (rInW w false) (tTupD (tConsD (tSlot 7) (tConsD (tSlot 8) (tNilD)))) (tSlot 3))))) (sRetD (tCD (.bl true))) (sNextD)))
  (sRetD (tCD (.bl false)))))
def rd__law_doubled (sp__law_draw : SpD) : TSD :=
  sSeqD (sAsgD (tSlot 1) (gTupD 3 (gConsD (gNameD 2) (gConsD (gNameD 3) (gConsD (gNameD 4) (gNilD))))))
  (sSeqD (sAsgD (tTupD (tConsD (tCallD rLenD (tConsD (tSlot 3) (tNilD))) (tConsD (tLstR (tNilD)) (tNilD)))) (gTupD 2 (gConsD (gNameD 5) (gConsD (gNameD 6) (gNilD)))))
  (sSeqD (sForD (iAnyD (tBin rAddD (tSlot 3) (tSlot 3))) (gNameD 7) (sDropD (tMethL rAppD (tSlot 6) (tConsD (tCallD rTupleD (tConsD (tLcV (iAnyD (tSlot 7)) (gNameD 8) (tYesD) (tIfD (tTst (tUnD rIsN (tSlot 8))) (tCD .non) (tBin rAddD (tSlot 8) (tBin rMulD (tSlot 5) (tCallD sp__law_draw (tConsD (tSlot 0) (tConsD (tCD (.int 2)) (tNilD))))))) [8]) (tNilD))) (tNilD)))))
  (sRetD (tTupD (tConsD (tSlot 2) (tConsD (tCallD rTupleD (tConsD (tSlot 6) (tNilD))) (tConsD (tBin rAddD (tSlot 4) (tSlot 4)) (tNilD))))))))
def rd__law_more (sp__law_one : SpD) (sp__law_draw : SpD) : TSD :=
  sSeqD (sAsgD (tSlot 1) (gTupD 3 (gConsD (gNameD 2) (gConsD (gNameD 3) (gConsD (gNameD 4) (gNilD))))))
  (sSeqD (sAsgD (tTupD (tConsD (tCallD rLenD (tConsD (tSlot 3) (tNilD))) (tConsD (tLstR (tNilD)) (tNilD)))) (gTupD 2 (gConsD (gNameD 5) (gConsD (gNameD 6) (gNilD)))))
  (sSeqD (sForD (iAnyD (tSlot 3)) (gNameD 7) (sDropD (tMethL rAppD (tSlot 6) (tConsD (tCallD rTupleD (tConsD (tLcV (iAnyD (tSlot 7)) (gNameD 8) (tYesD) (tIfD (tTst (tUnD rIsN (tSlot 8))) (tCallD sp__law_one (tConsD (tSlot 0) (tConsD (tLstV (tConsD (tCD .non) (tConsD (tSlot 5) (tNilD)))) (tNilD)))) (tSlot 8)) [8]) (tNilD))) (tNilD)))))
  (sSeqD (sDropD (tMethL rAppD (tSlot 6) (tConsD (tBin rMulD (tTupD (tConsD (tSlot 5) (tNilD))) (tSlot 2)) (tNilD))))
  (sSeqD (sDropD (tMethL rAppD (tSlot 6) (tConsD (tCallD rTupleD (tConsD (tLcV (iRng1D (tConsD (tSlot 2) (tNilD))) (gNameD 9) (tYesD) (tCallD sp__law_draw (tConsD (tSlot 0) (tConsD (tBin rAddD (tSlot 5) (tCD (.int 2))) (tNilD)))) [9]) (tNilD))) (tNilD))))
  (sRetD (tTupD (tConsD (tSlot 2) (tConsD (tCallD rTupleD (tConsD (tSlot 6) (tNilD))) (tConsD (tBin rAddD (tSlot 4) (tTupD (tConsD (tCD (.bl false)) (tConsD (tBin rEqD (tCallD sp__law_draw (tConsD (tSlot 0) (tConsD (tCD (.int 2)) (tNilD)))) (tCD (.int 0))) (tNilD))))) (tNilD))))))))))
def rd__law_mixed (sp__law_draw : SpD) : TSD :=
  sSeqD (sAsgD (tSlot 1) (gTupD 3 (gConsD (gNameD 2) (gConsD (gNameD 3) (gConsD (gNameD 4) (gNilD))))))
  (sSeqD (sAsgD (tTupD (tConsD (tListRng (tConsD (tCD (.int 1)) (tConsD (tCallD rLenD (tConsD (tSlot 3) (tNilD))) (tNilD)))) (tConsD (tLstR (tConsD (tCD (.int 0)) (tNilD))) (tNilD)))) (gTupD 2 (gConsD (gNameD 5) (gConsD (gNameD 6) (gNilD)))))
  (sSeqD (sForD (iRng1D (tConsD (tBin rSubD (tCallD rLenD (tConsD (tSlot 3) (tNilD))) (tCD (.int 1))) (tNilD))) (gNameD 7) (sDropD (tMethL rAppD (tSlot 6) (tConsD (tMethA rPopI (tSlot 5) (tConsD (tCallD sp__law_draw (tConsD (tSlot 0) (tConsD (tCallD rLenD (tConsD (tSlot 5) (tNilD))) (tNilD)))) (tNilD))) (tNilD)))))
  (sSeqD (sAsgD (tLstR (tNilD)) (gNameD 8))
  (sSeqD (sForD (iAnyD (tSlot 6)) (gNameD 9) (sDropD (tMethL rAppD (tSlot 8) (tConsD (tCallD rTupleD (tConsD (tLcV (iAnyD (tBin rIxX (tSlot 3) (tSlot 9))) (gNameD 10) (tYesD) (tIfD (tTst (tUnD rIsN (tSlot 10))) (tCD .non) (tMethA rLixD (tSlot 6) (tConsD (tSlot 10) (tNilD)))) [10]) (tNilD))) (tNilD)))))
  (sRetD (tTupD (tConsD (tSlot 2) (tConsD (tCallD rTupleD (tConsD (tSlot 8) (tNilD))) (tConsD (tCallD rTupleD (tConsD (tLcV (iAnyD (tSlot 6)) (gNameD 9) (tYesD) (tBin rIxX (tSlot 4) (tSlot 9)) [9]) (tNilD))) (tNilD))))))))))
def rd__law_long : TSD :=
  sSeqD (sAsgD (tBin rAddD (tLcV (iRng1D (tConsD (tBin rSubD (tSlot 0) (tCD (.int 1))) (tNilD))) (gNameD 3) (tYesD) (tTupD (tConsD (tBin rAddD (tSlot 3) (tCD (.int 1))) (tNilD))) [3]) (tLstV (tConsD (tTupD (tConsD (tIfD (tTst (tSlot 1)) (tCD (.int 0)) (tCD .non)) (tNilD))) (tNilD)))) (gNameD 2))
  (sRetD (tTupD (tConsD (tCD (.int 1)) (tConsD (tCallD rTupleD (tConsD (tSlot 2) (tNilD))) (tConsD (tBin rAddD (tBin rMulD (tTupD (tConsD (tCD (.bl false)) (tNilD))) (tBin rSubD (tSlot 0) (tCD (.int 1)))) (tTupD (tConsD (tCD (.bl true)) (tNilD)))) (tNilD))))))
def rd__law_long_right (sp__law_one : SpD) (sp__law_draw : SpD) (sp__law_long : SpD) (sp_smallest : SpD) (sp__law_doubled : SpD) : TSD :=
  sSeqD (sAsgD (tCallD sp__law_one (tConsD (tSlot 0) (tConsD (tLstV (tConsD (tCD (.int 200)) (tConsD (tCD (.int 199)) (tConsD (tBin rAddD (tCD (.int 2)) (tCallD sp__law_draw (tConsD (tSlot 0) (tConsD (tCD (.int 199)) (tNilD))))) (tNilD))))) (tNilD)))) (gNameD 1))
  (sSeqD (sPar2 2 3 (tConsD (tCallD sp__law_long (tConsD (tSlot 1) (tConsD (tCD (.bl false)) (tNilD)))) (tConsD (tCallD sp__law_long (tConsD (tSlot 1) (tConsD (tCD (.bl true)) (tNilD)))) (tNilD))))
  (sSeqD (sIfD (tTst (tBin rNeD (tCallD rReprD (tConsD (tLstV (tConsD (tCallD sp_smallest (tConsD (tCallD sp__law_doubled (tConsD (tSlot 0) (tConsD (tSlot 2) (tNilD)))) (tNilD))) (tConsD (tCallD sp_smallest (tConsD (tSlot 2) (tNilD))) (tNilD)))) (tNilD))) (tCallD rReprD (tConsD (tLstV (tConsD (tSlot 2) (tConsD (tSlot 2) (tNilD)))) (tNilD))))) (sRetD (tCD (.bl false))) (sNextD))
  (sRetD (tBin rEqD (tCallD rReprD (tConsD (tCallD sp_smallest (tConsD (tCallD sp__law_doubled (tConsD (tSlot 0) (tConsD (tSlot 3) (tNilD)))) (tNilD))) (tNilD))) (tCallD rReprD (tConsD (tSlot 3) (tNilD)))))))
end PS
end
section
local macro_rules | `(tactic| walk_at "rdx") => `(tactic| simp only [PD.pad, PD.gt_z, PD.gt_s, PD.st_z, PD.st_s, PD.sNextD, PD.sSeqD, PD.sBreakD, PD.sContD, PD.sDropD, PD.sRetD, PD.sRetND, PD.sIfD, PD.sNeverD, PD.sAsgD, PD.sPar2, PD.sPar3, PD.gNameD, PD.gNilD, PD.gConsD, PD.gTupD, PD.gSubD, PD.tNilD, PD.tConsD, PD.tTupD, PD.tLstV, PD.tLstR, PD.tBin, PD.tTst, PD.tAndD, PD.tOrD, PD.tNotD, PD.tIfD, PD.tAndV, PD.tOrV, PD.tNotV, PD.tUnD, PD.rNeg, PD.tCallD, PD.tSlot, PD.tCD, PD.tChainD, PD.rIsN, PD.rNotN, PD.rIsiD, PD.isi_non, PD.isi_bl, PD.isi_int, PD.isi_str, PD.isi_tup, PD.isi_lst, PD.isi_dic, PD.Ty.name, PD.rCmpI, PD.fLt, PD.fLe, PD.fGt, PD.fGe, PD.rAddD, PD.rSubD, PD.rFdivD, PD.rModD, PD.rPowD, PD.rMulD, PD.rAddR, PD.rMulR, PD.rMin2, PD.rMax2, PD.tRevSD, PD.tLcItD, PD.tLcKyD, PD.rDictP, PD.tListRng, PD.rPopI, PD.rGtN, PD.sLcKyD, PD.rIxL, PD.rEqE, PD.tOrX, PD.rNeE, PD.tlOf, PD.asSeq, PD.asLst, PD.rLenD, PD.rTupleD, PD.rListV, PD.rListR, PD.rIntD, PD.rBoolD, PD.rAbsD, PD.rIxD, PD.oNone, PD.oSome, PD.tSlD, PD.rSlD, PD.tRevTD, PD.rEqD, PD.rNeD, PD.nrm_non, PD.nrm_bl, PD.nrm_int, PD.nrm_str, PD.nrm_tup, PD.nrm_lst, PD.nrm_dic, PD.nrm_ref, PD.iSeqD, PD.iRng1D, PD.iRng2D, PD.sForD, PD.tLcV, PD.tLcR, PD.tYesD, PD.wipeD, PD.tMethL, PD.rAppD, PD.isRefL, PD.tDicV, PD.keyOf, PD.asDic, PD.srcD, PD.iAnyD, PD.iZipD, PD.iEnumD, PD.tDcV, PD.tDicR, PD.gSubX, PD.rSetX, PD.rIxX, PD.rInD, PD.rInX, PD.rInY, PD.rInZ, PD.rSumD, PD.tRevLD, PD.tRevX, PD.rSixD, PD.rJoinD, PD.tMethS, PD.rLixD, PD.rPopD, PD.rExtD, PD.tMethA, PD.rSetD, PD.rReprD, PD.eqk_int, PD.eqd_int, PD.eqk_str, PD.eqd_str, PD.eqk_lst0, PD.eqd_lst0, PD.eqk_tup0, PD.eqd_tup0, PD.tdOf, PD.rInW, PD.rIxW, PD.rSetW, PD.gSubW, PD.rLenW, PD.rGetW, PD.rGetAt, PD.tMethW, PD.rSetdW, PD.tDispR, PD.tPairsD, PD.putAll, PD.tDisp1T, PD.gSeqD, PD.rListW, PD.tLenSetD, PD.tFldD, PD.fldD, PD.tMethC, PD.methD, PD.tMakeD, PD.sFldD, PD.tMethB, PD.rLjD, PD.tCallX, PD.sRetX, PD.sRaiseD, PD.sTryD, PD.hdlD, PD.noX, PD.rExtX, PD.rTupleX, PD.gUnpD, PD.tDictZ, PD.rInP, PD.rLixP, PD.tCallE, PD.tNilL, PD.tConsL, PD.tLamL, PD.tCallL, PD.tMethCL, PD.tAlt, PD.tMake0, PD.tDispV, Option.map_some, Option.bind_some, PD.spFn, PD.spDraw, reduceIte, true_and, and_true, or_false, false_or, Bool.not_true, Bool.not_false, Bool.false_eq_true, List.length_cons, List.length_nil, List.set_cons_zero, List.set_cons_succ, PD.HD.set_same, PD.HD.tick_hp, PD.HD.tick_c, PD.HD.tick_dk, PD.HD.set_c, PD.HD.set_dk])
local macro_rules | `(tactic| simp_all only [$xs,*]) => `(tactic| simp only [PD.pad, PD.gt_z, PD.gt_s, PD.st_z, PD.st_s, PD.sNextD, PD.sSeqD, PD.sBreakD, PD.sContD, PD.sDropD, PD.sRetD, PD.sRetND, PD.sIfD, PD.sNeverD, PD.sAsgD, PD.sPar2, PD.sPar3, PD.gNameD, PD.gNilD, PD.gConsD, PD.gTupD, PD.gSubD, PD.tNilD, PD.tConsD, PD.tTupD, PD.tLstV, PD.tLstR, PD.tBin, PD.tTst, PD.tAndD, PD.tOrD, PD.tNotD, PD.tIfD, PD.tAndV, PD.tOrV, PD.tNotV, PD.tUnD, PD.rNeg, PD.tCallD, PD.tSlot, PD.tCD, PD.tChainD, PD.rIsN, PD.rNotN, PD.rIsiD, PD.isi_non, PD.isi_bl, PD.isi_int, PD.isi_str, PD.isi_tup, PD.isi_lst, PD.isi_dic, PD.Ty.name, PD.rCmpI, PD.fLt, PD.fLe, PD.fGt, PD.fGe, PD.rAddD, PD.rSubD, PD.rFdivD, PD.rModD, PD.rPowD, PD.rMulD, PD.rAddR, PD.rMulR, PD.rMin2, PD.rMax2, PD.tRevSD, PD.tLcItD, PD.tLcKyD, PD.rDictP, PD.tListRng, PD.rPopI, PD.rGtN, PD.sLcKyD, PD.rIxL, PD.rEqE, PD.tOrX, PD.rNeE, PD.tlOf, PD.asSeq, PD.asLst, PD.rLenD, PD.rTupleD, PD.rListV, PD.rListR, PD.rIntD, PD.rBoolD, PD.rAbsD, PD.rIxD, PD.oNone, PD.oSome, PD.tSlD, PD.rSlD, PD.tRevTD, PD.rEqD, PD.rNeD, PD.nrm_non, PD.nrm_bl, PD.nrm_int, PD.nrm_str, PD.nrm_tup, PD.nrm_lst, PD.nrm_dic, PD.nrm_ref, PD.iSeqD, PD.iRng1D, PD.iRng2D, PD.sForD, PD.tLcV, PD.tLcR, PD.tYesD, PD.wipeD, PD.tMethL, PD.rAppD, PD.isRefL, PD.tDicV, PD.keyOf, PD.asDic, PD.srcD, PD.iAnyD, PD.iZipD, PD.iEnumD, PD.tDcV, PD.tDicR, PD.gSubX, PD.rSetX, PD.rIxX, PD.rInD, PD.rInX, PD.rInY, PD.rInZ, PD.rSumD, PD.tRevLD, PD.tRevX, PD.rSixD, PD.rJoinD, PD.tMethS, PD.rLixD, PD.rPopD, PD.rExtD, PD.tMethA, PD.rSetD, PD.rReprD, PD.eqk_int, PD.eqd_int, PD.eqk_str, PD.eqd_str, PD.eqk_lst0, PD.eqd_lst0, PD.eqk_tup0, PD.eqd_tup0, PD.tdOf, PD.rInW, PD.rIxW, PD.rSetW, PD.gSubW, PD.rLenW, PD.rGetW, PD.rGetAt, PD.tMethW, PD.rSetdW, PD.tDispR, PD.tPairsD, PD.putAll, PD.tDisp1T, PD.gSeqD, PD.rListW, PD.tLenSetD, PD.tFldD, PD.fldD, PD.tMethC, PD.methD, PD.tMakeD, PD.sFldD, PD.tMethB, PD.rLjD, PD.tCallX, PD.sRetX, PD.sRaiseD, PD.sTryD, PD.hdlD, PD.noX, PD.rExtX, PD.rTupleX, PD.gUnpD, PD.tDictZ, PD.rInP, PD.rLixP, PD.tCallE, PD.tNilL, PD.tConsL, PD.tLamL, PD.tCallL, PD.tMethCL, PD.tAlt, PD.tMake0, PD.tDispV, Option.map_some, Option.bind_some, PD.spFn, PD.spDraw, reduceIte, true_and, and_true, or_false, false_or, Bool.not_true, Bool.not_false, Bool.false_eq_true, List.length_cons, List.length_nil, List.set_cons_zero, List.set_cons_succ, PD.HD.set_same, PD.HD.tick_hp, PD.HD.tick_c, PD.HD.tick_dk, PD.HD.set_c, PD.HD.set_dk, $xs,*])
/-! PS3: the law's look for the states that words lead to. -/
namespace PS
open PySem PySem.Spec PyProof.Rows PD PM
theorem inF_nat (t : Nat) (fs : List Nat) : inF (natD t) (fs.map natD) = decide (t ∈ fs) := by
  unfold inF
  rw [List.any_map]
  rw [Bool.eq_iff_iff, List.any_eq_true, decide_eq_true_iff]
  constructor
  · rintro ⟨x, hx, h⟩
    have h : decide (((x : Nat) : Int) = ((t : Nat) : Int)) = true := h
    have : x = t := by have := of_decide_eq_true h; omega
    exact this ▸ hx
  · intro h
    exact ⟨t, h, decide_eq_true rfl⟩
theorem flat_nats (fs : List Nat) : (fs.map natD).all flatD = true := by
  rw [List.all_map]
  exact List.all_eq_true.mpr fun _ _ => rfl
theorem rowE_at {M : Mch} (ok : M.Ok) {s : Nat} (h : s < M.rows.length) : ∃ r, M.rows[s]? = some r ∧ r.length = M.L ∧ L2.atI (M.rows.map PM.encR) (s : Int) = some (.tup (r.map encC)) ∧ ∀ c, (r[c]?).bind id = M.nx s c := by
  obtain ⟨r, h1, h2, h3⟩ := M.row ok h
  refine ⟨r, h1, h2, atI_map (f := PM.encR) h1, fun c => ?_⟩
  unfold Mch.nx
  rw [h1]
  rfl
def rowsE (M : Mch) : D := .tup (M.rows.map PM.encR)
def endsE (M : Mch) : D := .tup (M.ends.map .bl)
def spMetL : SpD := fun ds S Q => ∃ M : Mch, ds = [rowsE M] ∧ M.Ok ∧ ∀ ms : List Nat, All0 M ms → Q (.lst (ms.map natD)) S
theorem metL_len (ds : List D) (S : HD) (Q : QD) (h : spMetL ds S Q) : ds.length = 1 := by
  obtain ⟨_, rfl, _⟩ := h
  rfl
theorem metL_ok (ds : List D) (S : HD) (Q : QD) (h : spMetL ds S Q) : rd__law_met (ends Q) (pad 4 ds) S := by
  obtain ⟨M, rfl, ok, q⟩ := h
  have n4 := ok.n4
  unfold rd__law_met
  refine seq_step fun N1 hN1 => ?_
  walk_at "rdx"
  refine ⟨by decide, fun p hp => hN1 _ _ ?_⟩
  clear hN1 N1
  refine seq_step fun N1 hN1 => ?_
  let I : Nat → SD → HD → Prop := fun m σ S' => ∃ (fs : List Nat) (at' : Nat) (v3 : Option D), σ = [some (rowsE M), some (.ref p), some (natD at'), v3] ∧ S'.hp p = some (.lst (fs.map natD)) ∧ Up 0 S S' ∧ Bf M fs at' 0 ∧ at' ≤ fs.length ∧ m = M.rows.length - at'
  refine while_go I (n := M.rows.length) (fun m σ S' N ⟨fs, at', v3, e1, e2, u, J, hat, em⟩ k => ?_) ⟨[0], 0, none, rfl, HD.set_same, (Up.refl S).new hp, bf_0 ok, by simp, rfl⟩
  subst e1
  generalize hb1 : (iAnyD _ : TID) = ti
  generalize hb2 : (sIfD _ _ _ : TSD) = tb
  walk_at "rdx"
  simp only [e2, List.length_map]
  have hl2 := lt_len J.nd J.lt
  by_cases hlt : at' < fs.length
  · have hx : fs[at']? = some fs[at'] := List.getElem?_eq_getElem hlt
    have hsl := J.lt _ (List.getElem_mem hlt)
    generalize fs[at'] = s at hx hsl
    obtain ⟨row, r1, r2, r3, r4⟩ := rowE_at ok hsl
    have e4 : L2.atI (fs.map natD) (at' : Int) = some (natD s) := atI_nat' (f := natD) hx
    have hl' : decide (((at' : Nat) : Int) < ((fs.length : Nat) : Int)) = true := decide_eq_true (by omega)
    simp only [hl', if_true]
    subst hb1 hb2
    unfold rowsE
    simp_all only [e2, e4, r3]
    refine fun hz => ?_
    refine loopD_go (fun c σ S2 => ∃ (gs : List Nat) (v3 : Option D), σ = [some (.tup (M.rows.map PM.encR)), some (.ref p), some (natD at'), v3] ∧ S2.hp p = some (.lst (gs.map natD)) ∧ Up 0 S S2 ∧ Bf M gs at' c ∧ gs[at']? = some s)
      ⟨fs, v3, rfl, e2, u, J, hx⟩ (fun c d σ S2 N2 hi ⟨gs, v3, f1, f2, f3, f4, f5⟩ k2 => ⟨trivial, ?_⟩) fun σ S2 ⟨gs, v3, f1, f2, f3, f4, f5⟩ => ⟨trivial, ?_⟩
    · subst f1
      obtain ⟨x, hc, rfl⟩ := encC_get hi
      have hnx : M.nx s c = x := by rw [← r4, hc]; rfl
      have gl2 := lt_len f4.nd f4.lt
      cases x with
      | none =>
        walk_at "rdx"
        simp only [encC, isN, Bool.not_true, Bool.false_eq_true, if_false]
        exact k2 _ _ ⟨gs, _, rfl, f2, f3, f4.skip f5 fun t h => (by rw [hnx] at h; cases h), f5⟩
      | some t =>
        walk_at "rdx"
        simp only [encC, isN, Bool.not_false, if_true]
        simp only [f2, flat_nats, inF_nat]
        by_cases ht : t ∈ gs
        · simp only [ht, decide_true, Bool.not_true, Bool.false_eq_true, if_false]
          trace_state
          exact ⟨⟨rfl, trivial⟩, k2 _ _ ⟨gs, _, rfl, f2, f3, f4.skip f5 fun t' h => (by rw [hnx] at h; cases h; exact ht), f5⟩⟩
        · simp only [ht, decide_false, Bool.not_false, if_true]
          trace_state
          have J2 := Bf.add ok f4 f5 hnx ht
          refine ⟨⟨rfl, trivial⟩, ⟨_, rfl⟩, by rw [List.length_map]; omega, k2 _ _ ⟨gs ++ [t], _, rfl, by rw [HD.set_same, List.map_append]; rfl, f3.set hp, J2, ?_⟩⟩
          rw [List.getElem?_append_left (List.getElem?_eq_some_iff.mp f5).1]; exact f5
    · subst f1
      walk_at "rdx"
      rw [List.length_map, r2] at f4
      have hl9 := (List.getElem?_eq_some_iff.mp f5).1
      have gl2 := lt_len f4.nd f4.lt
      refine k (M.rows.length - (at' + 1)) _ _ ?_ ⟨gs, at' + 1, _, rfl, f2, f3, f4.next ok (Nat.le_refl _), by omega, rfl⟩
      omega
  · have hl' : decide (((at' : Nat) : Int) < ((fs.length : Nat) : Int)) = false := decide_eq_false (by omega)
    simp only [hl', Bool.false_eq_true, if_false]
    refine hN1 _ _ ?_
    walk_at "rdx"
    refine fin.frz e2 ⟨fun a o h => ?_, u.c, u.dk.symm⟩ (q fs (J.all (by omega)))
    have ne : a ≠ p := fun e => by rw [e, hp] at h; cases h
    simp only [HD.del, ne, if_false]
    exact u.hp a o h
end PS
/-! PS4: the law's look for the states from which words lead to ends. -/
namespace PS
open PySem PySem.Spec PyProof.Rows PD PM
theorem lc_filtF {g : TGD} {tt : TTD} {te : TED} {σ : SD} {keep : HD → Prop} {S : HD} {Q : List D → HD → Prop} {α : Type} (E F : α → D) (p : α → Bool) (hk : keep S) (ws : List α)
    (h : ∀ w ∈ ws, ∀ (Q1 : D → HD → Prop) (Q0 : HD → Prop), (if p w = true then Q1 (F w) S else Q0 S) → g (E w) σ S fun σ2 S2 => tt σ2 S2 fun b S3 => if b = true then te σ2 S3 Q1 else Q0 S3)
    (q : Q ((ws.filter p).map F) S) : lcD g tt te σ keep Q (ws.map E) [] S := by
  refine lcD_go (fun i acc S' => acc = ((ws.take i).filter p).map F ∧ S' = S) ⟨rfl, rfl⟩ (fun i d acc S' N hi ⟨e1, e2⟩ k => ⟨e2 ▸ hk, ?_⟩) fun acc S' ⟨e1, e2⟩ => ⟨e2 ▸ hk, ?_⟩
  · subst e1 e2
    rw [List.getElem?_map] at hi
    obtain ⟨w, hw, rfl⟩ := Option.map_eq_some_iff.mp hi
    refine h w (List.mem_of_getElem? hw) _ _ ?_
    cases hp : p w with
    | true =>
      rw [if_pos rfl]
      refine k _ _ ⟨?_, rfl⟩
      rw [List.take_add_one, hw, List.filter_append, List.map_append]
      simp [hp]
    | false =>
      rw [if_neg (by decide)]
      refine k _ _ ⟨?_, rfl⟩
      rw [List.take_add_one, hw, List.filter_append, List.map_append]
      simp [hp]
  · subst e1 e2
    rw [List.length_map, List.take_length]
    exact q
theorem rngD_nat (n : Nat) : rngD 0 n = (List.range n).map natD := by
  unfold rngD natD
  apply List.map_congr_left
  intro k _
  show D.int (0 + (k : Int)) = .int (k : Int)
  rw [Int.zero_add]
theorem putAll_nat (f : Nat → D) : ∀ (ls pre : List Nat), (pre ++ ls).Nodup → putAll ((ls.map fun s : Nat => (Sum.inl (s : Int) : L2.Key)).zip (ls.map f)) (dnat f pre) = dnat f (pre ++ ls)
  | [], pre, _ => by rw [List.append_nil]; rfl
  | s :: ls, pre, h => by
    have h1 : s ∉ pre := fun hm => by
      rw [List.nodup_append] at h
      exact h.2.2 s hm s List.mem_cons_self rfl
    show putAll ((ls.map fun s : Nat => (Sum.inl (s : Int) : L2.Key)).zip (ls.map f)) (putD (dnat f pre) (.inl (s : Int)) (f s)) = _
    rw [putD_new f h1, putAll_nat f ls (pre ++ [s]) (by rw [List.append_assoc]; exact h), List.append_assoc]
    rfl
/-- what is found open so far -/
structure Op (M : Mch) (ls : List Nat) : Prop where
  nd : ls.Nodup
  lv : ∀ s ∈ ls, M.live s ∧ s < M.rows.length
  fin : ∀ s, M.fin s = true → s ∈ ls
theorem Op.add {M : Mch} {ls : List Nat} (J : Op M ls) {s c t : Nat} (h : M.nx s c = some t) (ht : t ∈ ls) (hn : s ∉ ls) : Op M (ls ++ [s]) where
  nd := by
    rw [List.nodup_append]
    exact ⟨J.nd, by simp, fun a ha b hb e => hn (by rw [List.mem_singleton.mp hb] at e; exact e ▸ ha)⟩
  lv := fun x hx => (List.mem_append.mp hx).elim (J.lv x) fun e => by
    rw [List.mem_singleton.mp e]
    exact ⟨live_nx h (J.lv t ht).1, nx_s h⟩
  fin := fun x hx => List.mem_append_left _ (J.fin x hx)
theorem fin_lt {M : Mch} (ok : M.Ok) {s : Nat} (h : M.fin s = true) : s < M.rows.length := by
  unfold Mch.fin at h
  cases hs : M.ends[s]? with
  | none => rw [hs] at h; cases h
  | some b => have := (List.getElem?_eq_some_iff.mp hs).1; rw [ok.en] at this; exact this
def spOpenL : SpD := fun ds S Q => ∃ M : Mch, ds = [rowsE M, endsE M] ∧ M.Ok ∧ ∀ ls : List Nat, ls.Nodup → (∀ s, s ∈ ls ↔ M.live s) → Q (.dic (dnat (fun _ => .bl true) ls)) S
theorem openL_len (ds : List D) (S : HD) (Q : QD) (h : spOpenL ds S Q) : ds.length = 2 := by
  obtain ⟨_, rfl, _⟩ := h
  rfl
theorem openL_ok {w : World} (ds : List D) (S : HD) (Q : QD) (h : spOpenL ds S Q) : rd__law_open w (ends Q) (pad 7 ds) S := by
  obtain ⟨M, rfl, ok, q⟩ := h
  have n4 := ok.n4
  have hsl : (sizeLine : Nat) = 16777216 := rfl
  unfold rd__law_open
  refine seq_step fun N1 hN1 => ?_
  unfold rowsE endsE
  generalize hT : (tTst (tBin rIxX (tSlot 1) (tSlot 5)) : TTD) = T1
  generalize hg : (gNameD 5 : TGD) = g
  generalize hO : (tTupD (tConsD (tSlot 5) _) : TED) = O1
  walk_at "rdx"
  rw [List.length_map, Int.toNat_natCast, rngD_nat]
  refine ⟨⟨by omega, by omega⟩, by rw [List.length_map, List.length_range]; omega, ?_⟩
  refine lc_filtF natD (fun s => .tup [natD s, .bl true]) M.fin trivial (List.range M.rows.length) (fun s hs Q1 Q0 h => ?_) ?_
  · subst hT hg hO
    have hsl2 := List.mem_range.mp hs
    have ea : L2.atI (M.ends.map D.bl) (s : Int) = some (.bl (M.fin s)) := end_at ok hsl2
    walk_at "rdx"
    simp only [ea]
    cases hf : M.fin s with
    | true => rw [hf] at h; exact ⟨by decide, h⟩
    | false => rw [hf] at h; exact h
  clear hT hg hO
  generalize hls : (List.range M.rows.length).filter M.fin = ls0
  have J0 : Op M ls0 := by
    rw [← hls]
    exact ⟨List.nodup_range.filter _, fun s hs => ⟨⟨[], (List.mem_filter.mp hs).2⟩, List.mem_range.mp (List.mem_filter.mp hs).1⟩, fun s hs => List.mem_filter.mpr ⟨List.mem_range.mpr (fin_lt ok hs), hs⟩⟩
  refine ⟨ls0.map fun s : Nat => ((s : Int), .bl true), by rw [List.map_map]; rfl, fun p hp => ⟨by decide, hN1 _ _ ?_⟩⟩
  clear hN1 N1
  have e0 : List.foldl (fun acc (kd : L2.Key × D) => putD acc kd.1 kd.2) [] (((ls0.map fun s : Nat => ((s : Int), D.bl true)).map fun q => (Sum.inl q.1 : L2.Key)).zip ((ls0.map fun s : Nat => ((s : Int), D.bl true)).map fun x => x.2)) = dnat (fun _ => .bl true) ls0 := by
    rw [List.map_map, List.map_map]
    exact putAll_nat (fun _ => .bl true) ls0 [] (by simpa using J0.nd)
  rw [e0]
  refine seq_step fun N1 hN1 => ?_
  let I : Nat → SD → HD → Prop := fun m σ S' => ∃ (ls : List Nat) (many : Int) (v4 v5 v6 : Option D), σ = [some (.tup (M.rows.map PM.encR)), some (.tup (M.ends.map .bl)), some (.ref p), some (.int many), v4, v5, v6] ∧ S'.hp p = some (.dic (dnat (fun _ => .bl true) ls)) ∧ Up 0 S S' ∧ Op M ls ∧
    -1 ≤ many ∧ many ≤ ls.length ∧ (many = ls.length → ∀ s c t, M.nx s c = some t → t ∈ ls → s ∈ ls) ∧ m = M.rows.length + 1 - (many + 1).toNat
  refine while_go I (n := M.rows.length + 1) (fun m σ S' N ⟨ls, many, v4, v5, v6, e1, e2, u, J, m1, m2, cl, em⟩ k => ?_) ⟨ls0, -1, none, none, none, rfl, HD.set_same, (Up.refl S).new hp, J0, by omega, by omega, fun z => by omega, rfl⟩
  subst e1
  have hl2 := lt_len J.nd fun s hs => (J.lv s hs).2
  generalize hb1 : (sForD _ _ _ : TSD) = tb
  walk_at "rdx"
  simp only [e2, dnat_len, nrm_int, eqk_int, eqd_int, true_and]
  by_cases hm : ((ls.length : Nat) : Int) = many
  · rw [decide_eq_true hm]
    simp only [Bool.not_true, Bool.false_eq_true, if_false]
    refine hN1 _ _ ?_
    walk_at "rdx"
    refine fin.frzD e2 ⟨fun a o h => ?_, u.c, u.dk.symm⟩ (q ls J.nd fun s => ⟨fun hs => (J.lv s hs).1, fun ⟨w, hw⟩ => ?_⟩)
    · have ne : a ≠ p := fun e => by rw [e, hp] at h; cases h
      simp only [HD.del, ne, if_false]
      exact u.hp a o h
    · exact live_in (P := fun s => s ∈ ls) J.fin (cl hm.symm) w s hw
  · rw [decide_eq_false hm]
    simp only [Bool.not_false, if_true]
    subst hb1
    generalize hB : (sSeqD _ _ : TSD) = B1
    walk_at "rdx"
    rw [List.length_map, Int.toNat_natCast, rngD_nat]
    refine ⟨⟨by omega, by omega⟩, ?_⟩
    refine loopD_go (fun i σ S2 => ∃ (gs : List Nat) (v4 v5 v6 : Option D), σ = [some (.tup (M.rows.map PM.encR)), some (.tup (M.ends.map .bl)), some (.ref p), some (.int (ls.length : Nat)), v4, v5, v6] ∧ S2.hp p = some (.dic (dnat (fun _ => .bl true) gs)) ∧ Up 0 S S2 ∧ Op M gs ∧
        ls.length ≤ gs.length ∧ (gs.length = ls.length → ∀ k, k < i → ∀ c t, M.nx (M.rows.length - 1 - k) c = some t → t ∈ gs → M.rows.length - 1 - k ∈ gs))
      ⟨ls, _, _, _, rfl, e2, u, J, Nat.le_refl _, fun _ k hk => absurd hk (Nat.not_lt_zero k)⟩ (fun i d σ S2 N2 hi ⟨gs, v4, v5, v6, f1, f2, f3, f4, f5, f6⟩ k2 => ⟨trivial, ?_⟩) fun σ S2 ⟨gs, v4, v5, v6, f1, f2, f3, f4, f5, f6⟩ => ⟨trivial, ?_⟩
    · subst f1
      rw [List.getElem?_map] at hi
      obtain ⟨x, hx, rfl⟩ := Option.map_eq_some_iff.mp hi
      obtain ⟨hi1, hxi⟩ : i < M.rows.length ∧ i = x := by
        have h1 := (List.getElem?_eq_some_iff.mp hx).1
        rw [List.length_range] at h1
        rw [List.getElem?_range h1] at hx
        exact ⟨h1, Option.some.inj hx⟩
      subst hxi
      walk_at "rdx"
      subst hB
      refine seq_step fun N3 hN3 => ?_
      walk_at "rdx"
      rw [List.length_map]
      have es : ((M.rows.length : Int) - 1 - (i : Nat)) = ((M.rows.length - 1 - i : Nat) : Int) := by omega
      rw [es]
      refine hN3 _ _ ?_
      clear hN3 N3
      have hst : M.rows.length - 1 - i < M.rows.length := by omega
      generalize hs : M.rows.length - 1 - i = s at hst
      obtain ⟨row, r1, r2, r3, r4⟩ := rowE_at ok hst
      have gl2 := lt_len f4.nd fun s hs => (f4.lv s hs).2
      generalize hT : (tTst (tBin (rInW w false) (tSlot 6) _) : TTD) = T1
      generalize hg : (gNameD 6 : TGD) = g
      generalize hO : (tSlot 6 : TED) = O1
      walk_at "rdx"
      simp only [f2, r3, hasK_nat]
      have old : s ∈ gs ∨ (∀ c t, M.nx s c = some t → t ∉ gs) → gs.length = ls.length → ∀ k, k < i + 1 → ∀ c t, M.nx (M.rows.length - 1 - k) c = some t → t ∈ gs → M.rows.length - 1 - k ∈ gs := fun h z k hk c t h1 h2 => by
        by_cases e : k = i
        · subst e
          rw [hs] at h1 ⊢
          exact h.resolve_right fun h => h c t h1 h2
        · exact f6 z k (by omega) c t h1 h2
      by_cases hg' : s ∈ gs
      · simp only [hg', decide_true, Bool.not_true, Bool.false_eq_true, if_false]
        exact k2 _ _ ⟨gs, _, _, _, rfl, f2, f3, f4, f5, old (.inl hg')⟩
      · simp only [hg', decide_false, Bool.not_false, if_true]
        let pr : Option Nat → Bool := fun x => match x with
          | some t => decide (t ∈ gs)
          | none => false
        refine fun hz => ⟨hz, lc_filtF encC encC pr trivial row (fun x hx Q1 Q0 h => ?_) ?_⟩
        · subst hT hg hO
          cases x with
          | none =>
            have h : Q0 S2 := h
            unfold encC
            walk_at "rdx"
            simp only [f2]
            trace_state
            exact h
          | some t =>
            have h : if decide (t ∈ gs) = true then Q1 (.int (t : Nat)) S2 else Q0 S2 := h
            unfold encC
            walk_at "rdx"
            simp only [f2, hasK_nat]
            trace_state
            exact h
        clear hT hg hO
        refine ⟨by decide, ?_⟩
        have ee : ((row.filter pr).map encC).isEmpty = (row.filter pr).isEmpty := by cases row.filter pr <;> rfl
        rw [ee]
        cases he : (row.filter pr).isEmpty with
        | true =>
          have hn : row.filter pr = [] := List.isEmpty_iff.mp he
          simp only [Bool.not_true, Bool.false_eq_true, if_false]
          refine k2 _ _ ⟨gs, _, _, _, rfl, f2, f3, f4, f5, old (.inr fun c t h1 h2 => ?_)⟩
          have h3 : some t ∈ row := by
            have := r4 c
            rw [h1] at this
            cases hc : row[c]? with
            | none => rw [hc] at this; cases this
            | some x => rw [hc] at this; have this : x = some t := this; exact this ▸ List.mem_of_getElem? hc
          have : some t ∈ row.filter pr := List.mem_filter.mpr ⟨h3, decide_eq_true h2⟩
          rw [hn] at this
          cases this
        | false =>
          obtain ⟨x, hx⟩ : ∃ x, x ∈ row.filter pr := by
            cases hr : row.filter pr with
            | nil => rw [hr] at he; cases he
            | cons x r => exact ⟨x, List.mem_cons_self⟩
          obtain ⟨hx1, hx2⟩ := List.mem_filter.mp hx
          obtain ⟨t, rfl, ht⟩ : ∃ t, x = some t ∧ t ∈ gs := by
            cases x with
            | none => cases hx2
            | some t => exact ⟨t, rfl, of_decide_eq_true hx2⟩
          obtain ⟨c, hc⟩ := List.mem_iff_getElem?.mp hx1
          have hnx : M.nx s c = some t := by rw [← r4, hc]; rfl
          simp only [Bool.not_false, if_true, f2]
          rw [dnat_len]
          refine ⟨by omega, k2 _ _ ⟨gs ++ [s], _, _, _, rfl, by rw [HD.set_same]; exact congrArg (fun l => some (OD.dic l)) (putD_new (fun _ => .bl true) hg'), f3.set hp, f4.add hnx ht hg', by rw [List.length_append]; omega, fun z => ?_⟩⟩
          rw [List.length_append] at z
          have h9 : ([s] : List Nat).length = 1 := rfl
          omega
    · subst f1
      refine k (M.rows.length + 1 - (ls.length + 1)) _ _ ?_ ⟨gs, ls.length, _, _, _, rfl, f2, f3, f4, by omega, by omega, fun z s c t hn ht => ?_, by omega⟩
      · omega
      · have hsl := nx_s hn
        have := f6 (by omega) (M.rows.length - 1 - s) (by rw [List.length_map, List.length_range]; omega) c t
        have es : M.rows.length - 1 - (M.rows.length - 1 - s) = s := by omega
        rw [es] at this
        exact this hn ht
end PS
/-! PS5: whether the law holds two states apart. -/
namespace PS
open PySem PySem.Spec PyProof.Rows PD PM
abbrev Np := Nat × Nat
def nP (p : Np) : D := .tup [natD p.1, natD p.2]
def nK (p : Np) : NestedKey := .tup [.num (p.1 : Int), .num (p.2 : Int)]
theorem key_n (p : Np) : keyT (nP p) = some (nK p) := by
  unfold nP keyT
  simp only [nksOf, nkOf]
  rfl
theorem nk_n (p : Np) : nkOf (nP p) = some (nK p) := keyT_nk (key_n p)
theorem nK_inj {p q : Np} (h : nK p = nK q) : p = q := by
  obtain ⟨a, b⟩ := p
  obtain ⟨c, d⟩ := q
  have h1 := NestedKey.tup.inj h
  obtain ⟨h2, h3⟩ := List.cons.inj h1
  obtain ⟨h3, _⟩ := List.cons.inj h3
  have e1 : ((a : Nat) : Int) = (c : Nat) := NestedKey.num.inj h2
  have e2 : ((b : Nat) : Int) = (d : Nat) := NestedKey.num.inj h3
  have e1 : a = c := by omega
  have e2 : b = d := by omega
  rw [e1, e2]
theorem nK_dep (p : Np) : (nK p).depth ≤ 8 := by
  unfold nK
  simp only [NestedKey.depth, NestedKey.depthAll]
  omega
/-- the pairs that are held apart, as a dict -/
def htb (H : List Np) : List (D × D) := H.map fun p => (nP p, .bl true)
theorem getT_h (p : Np) : ∀ H : List Np, getT (htb H) (nK p) = if p ∈ H then some (.bl true) else none
  | [] => rfl
  | q :: H => by
    show (if nkOf (nP q) = some (nK p) then some (D.bl true) else getT (htb H) (nK p)) = _
    rw [nk_n, getT_h p H]
    by_cases e : q = p
    · subst e; rw [if_pos rfl, if_pos List.mem_cons_self]
    · rw [if_neg fun z => e (nK_inj (Option.some.inj z))]
      by_cases h : p ∈ H
      · rw [if_pos h, if_pos (List.mem_cons_of_mem _ h)]
      · rw [if_neg h, if_neg fun z => (List.mem_cons.mp z).elim (fun z => e z.symm) h]
theorem hasT_h (p : Np) (H : List Np) : hasT (htb H) (nK p) = decide (p ∈ H) := by
  unfold hasT
  rw [getT_h]
  by_cases h : p ∈ H
  · rw [if_pos h]; simp [h]
  · rw [if_neg h]; simp [h]
theorem putT_h {p : Np} {H : List Np} (h : p ∉ H) : putT (htb H) (nP p) (nK p) (.bl true) = htb (H ++ [p]) := by
  unfold putT
  rw [hasT_h]
  simp only [h, decide_false, Bool.false_eq_true, if_false]
  unfold htb
  rw [List.map_append]
  rfl
def inO (x : Option Nat) (ls : List Nat) : Bool := match x with
  | some t => decide (t ∈ ls)
  | none => false
def inP (x y : Option Nat) (H : List Np) : Bool := match x, y with
  | some s, some t => decide ((s, t) ∈ H)
  | _, _ => false
def apC (M : Mch) (ls : List Nat) (H : List Np) (s t c : Nat) : Bool := (inO (M.nx s c) ls != inO (M.nx t c) ls) || (inO (M.nx s c) ls && inP (M.nx s c) (M.nx t c) H)
def apB (M : Mch) (ls : List Nat) (H : List Np) (s t : Nat) : Bool := (M.fin s != M.fin t) || (List.range M.L).any (apC M ls H s t)
def spApt (w : World) : SpD := fun ds S Q => ∃ (M : Mch) (ls : List Nat) (hd : Addr) (H : List Np) (s t : Nat), ds = [rowsE M, endsE M, .dic (dnat (fun _ => .bl true) ls), .ref hd, nP (s, t)] ∧ M.Ok ∧ s < M.rows.length ∧ t < M.rows.length ∧ S.hp hd = some (.dct w (htb H)) ∧ Q (.bl (apB M ls H s t)) S
theorem apt_len {w : World} (ds : List D) (S : HD) (Q : QD) (h : spApt w ds S Q) : ds.length = 5 := by
  obtain ⟨_, _, _, _, _, _, rfl, _⟩ := h
  rfl
theorem apt_ok {w : World} (ds : List D) (S : HD) (Q : QD) (h : spApt w ds S Q) : rd__law_are_apart w (ends Q) (pad 9 ds) S := by
  obtain ⟨M, ls, hd, H, s, t, rfl, ok, hs, ht, hh, q⟩ := h
  have q := fin.here q
  have n4 := ok.n4
  have hsl : (sizeLine : Nat) = 16777216 := rfl
  unfold rd__law_are_apart rowsE endsE nP
  refine seq_step fun N1 hN1 => ?_
  walk_at "rdx"
  refine hN1 _ _ ?_
  clear hN1 N1
  have ea : L2.atI (M.ends.map D.bl) (s : Int) = some (.bl (M.fin s)) := end_at ok hs
  have eb : L2.atI (M.ends.map D.bl) (t : Int) = some (.bl (M.fin t)) := end_at ok ht
  refine seq_step fun N1 hN1 => ?_
  walk_at "rdx"
  have e8 : ∀ a b : Bool, eqk (D.bl a) (.bl b) = true := fun a b => by cases a <;> cases b <;> decide +kernel
  have e9 : ∀ a b : Bool, eqd (D.bl a) (.bl b) = (a == b) := fun a b => by cases a <;> cases b <;> decide +kernel
  simp only [ea, eb, nrm_bl, e8, e9, true_and]
  unfold apB at q
  cases hf : (M.fin s == M.fin t) with
  | false =>
    have : (M.fin s != M.fin t) = true := by unfold bne; rw [hf]; rfl
    rw [this, Bool.true_or] at q
    simp only [Bool.not_false, if_true]
    exact q
  | true =>
    have : (M.fin s != M.fin t) = false := by unfold bne; rw [hf]; rfl
    rw [this, Bool.false_or] at q
    simp only [Bool.not_true, Bool.false_eq_true, if_false]
    refine hN1 _ _ ?_
    clear hN1 N1
    obtain ⟨r1, a1, a2, a3, a4⟩ := rowE_at ok hs
    obtain ⟨r2, b1, b2, b3, b4⟩ := rowE_at ok ht
    refine seq_step fun N1 hN1 => ?_
    generalize hB : (sIfD (tOrD _ _) _ _ : TSD) = B1
    walk_at "rdx"
    simp only [a3, b3]
    refine loopD_go (fun c σ S' => (∃ v7 v8, σ = [some (.tup (M.rows.map PM.encR)), some (.tup (M.ends.map .bl)), some (.dic (dnat (fun _ => .bl true) ls)), some (.ref hd), some (.tup [natD s, natD t]), some (natD s), some (natD t), v7, v8]) ∧ S' = S ∧ ∀ k, k < c → apC M ls H s t k = false)
      ⟨⟨_, _, rfl⟩, rfl, fun k hk => absurd hk (Nat.not_lt_zero k)⟩ (fun c d σ S' N2 hc ⟨⟨v7, v8, e1⟩, e2, e3⟩ k2 => ⟨⟨trivial, trivial⟩, ?_⟩) fun σ S' ⟨⟨v7, v8, e1⟩, e2, e3⟩ => ⟨⟨trivial, trivial⟩, ?_⟩
    · subst e1 e2
      obtain ⟨x0, y0, hx0, hy0, rfl⟩ := zipD_get hc
      obtain ⟨x, hx, rfl⟩ := encC_get hx0
      obtain ⟨y, hy, rfl⟩ := encC_get hy0
      have ex : M.nx s c = x := by rw [← a4, hx]; rfl
      have ey : M.nx t c = y := by rw [← b4, hy]; rfl
      have hcl : c < M.L := by rw [← a2]; exact (List.getElem?_eq_some_iff.mp hx).1
      have stop : apC M ls H s t c = true → fin Q (.bl true) S' := fun h => by
        have : (List.range M.L).any (apC M ls H s t) = true := List.any_eq_true.mpr ⟨c, List.mem_range.mpr hcl, h⟩
        rw [this] at q
        exact q
      have go : apC M ls H s t c = false → ∀ k, k < c + 1 → apC M ls H s t k = false := fun h k hk => by
        by_cases e : k = c
        · rw [e]; exact h
        · exact e3 k (by omega)
      unfold apC at stop go
      rw [ex, ey] at stop go
      walk_at "rdx"
      subst hB
      have kn : ∀ a b : Nat, keyT (.tup [.int (a : Nat), .int (b : Nat)]) = some (nK (a, b)) := fun a b => key_n (a, b)
      cases x with
      | none =>
        cases y with
        | none =>
          unfold encC
          walk_at "rdx"
          simp only [e8, e9, true_and]
          exact k2 _ _ ⟨⟨_, _, rfl⟩, rfl, go rfl⟩
        | some b =>
          unfold encC
          walk_at "rdx"
          simp only [hasK_nat]
          simp only [e8, e9, true_and]
          cases hb : decide (b ∈ ls) with
          | true => simp only [inO, hb] at stop go ⊢; exact stop rfl
          | false => simp only [inO, hb] at stop go ⊢; exact k2 _ _ ⟨⟨_, _, rfl⟩, rfl, go rfl⟩
      | some a =>
        cases y with
        | none =>
          unfold encC
          walk_at "rdx"
          simp only [hasK_nat]
          simp only [e8, e9, true_and]
          cases ha : decide (a ∈ ls) with
          | true => simp only [inO, ha] at stop go ⊢; exact stop rfl
          | false => simp only [inO, ha] at stop go ⊢; exact k2 _ _ ⟨⟨_, _, rfl⟩, rfl, go rfl⟩
        | some b =>
          unfold encC
          walk_at "rdx"
          simp only [hasK_nat, nrm_bl, e8, e9, hh, kn, hasT_h, true_and]
          cases ha : decide (a ∈ ls) with
          | false =>
            cases hb : decide (b ∈ ls) with
            | true => simp only [inO, ha, hb] at stop go ⊢; exact stop rfl
            | false => simp only [inO, ha, hb] at stop go ⊢; exact k2 _ _ ⟨⟨_, _, rfl⟩, rfl, go rfl⟩
          | true =>
            cases hb : decide (b ∈ ls) with
            | false => simp only [inO, ha, hb] at stop go ⊢; exact stop rfl
            | true =>
              cases hp : decide ((a, b) ∈ H) with
              | true => simp only [inO, inP, ha, hb, hp] at stop go ⊢; exact ⟨by decide, nK_dep _, stop rfl⟩
              | false => simp only [inO, inP, ha, hb, hp] at stop go ⊢; exact ⟨by decide, nK_dep _, k2 _ _ ⟨⟨_, _, rfl⟩, rfl, go rfl⟩⟩
    · subst e1 e2
      refine hN1 _ _ ?_
      clear hN1
      have : (List.range M.L).any (apC M ls H s t) = false := by
        rw [List.any_eq_false]
        intro c hc
        have hcl := List.mem_range.mp hc
        rw [e3 c (by rw [zipD_len, List.length_map, List.length_map, a2, b2]; omega)]
        decide
      rw [this] at q
      walk_at "rdx"
      exact q
end PS
end
section
/-! PS6: pairs held apart, plain. -/
namespace PS
open PySem PySem.Spec PyProof.Rows PD PM
/-- what is held apart so far -/
structure Hd (M : Mch) (st : List Nat) (H : List Np) : Prop where
  nd : H.Nodup
  ok : ∀ p ∈ H, p.1 ∈ st ∧ p.2 ∈ st ∧ ¬ M.req p.1 p.2
def prs (st : List Nat) : List Np := st.flatMap fun a => st.map fun b => (a, b)
theorem prs_mem {st : List Nat} {a b : Nat} : (a, b) ∈ prs st ↔ a ∈ st ∧ b ∈ st := by
  unfold prs
  simp only [List.mem_flatMap, List.mem_map, Prod.mk.injEq]
  constructor
  · rintro ⟨x, hx, y, hy, rfl, rfl⟩
    exact ⟨hx, hy⟩
  · rintro ⟨h1, h2⟩
    exact ⟨a, h1, b, h2, rfl, rfl⟩
theorem prs_len (st : List Nat) : (prs st).length = st.length * st.length := by
  unfold prs
  have key : ∀ xs : List Nat, (xs.flatMap fun a => st.map fun b => (a, b)).length = xs.length * st.length := by
    intro xs
    induction xs with
    | nil => simp
    | cons x xs ih => rw [List.flatMap_cons, List.length_append, ih, List.length_map, List.length_cons, Nat.add_mul, Nat.one_mul, Nat.add_comm]
  exact key st
theorem Hd.len {M : Mch} {st : List Nat} {H : List Np} (h : Hd M st H) : H.length ≤ st.length * st.length := by
  rw [← prs_len]
  exact sub_len h.nd fun p hp => prs_mem.mpr ⟨(h.ok p hp).1, (h.ok p hp).2.1⟩
section
variable {M : Mch} {ms : List Nat} {ls : List Nat}
/-- the states that are come to and from which words lead to ends -/
structure Use (M : Mch) (ms ls : List Nat) : Prop where
  ok : M.Ok
  A : All0 M ms
  lnd : ls.Nodup
  lv : ∀ s, s ∈ ls ↔ M.live s
def lvB (ls : List Nat) (s : Nat) : Bool := decide (s ∈ ls)
theorem Use.st (U : Use M ms ls) {s : Nat} : s ∈ ms.filter (lvB ls) ↔ s ∈ ms ∧ M.live s := by
  rw [List.mem_filter]
  unfold lvB
  rw [decide_eq_true_iff, U.lv]
theorem Use.nx (U : Use M ms ls) {s c t : Nat} (hs : s ∈ ms.filter (lvB ls)) (h : M.nx s c = some t) (ht : t ∈ ls) : t ∈ ms.filter (lvB ls) :=
  U.st.mpr ⟨U.A.cl s (U.st.mp hs).1 c t h, (U.lv t).mp ht⟩
theorem Use.dead (U : Use M ms ls) {x : Option Nat} (h : inO x ls = false) (w : List Nat) : (x.map fun t => M.accF t w).getD false = false := by
  cases x with
  | none => rfl
  | some t =>
    cases e : M.accF t w with
    | false => show M.accF t w = false; exact e
    | true =>
      have : t ∈ ls := (U.lv t).mpr ⟨w, e⟩
      have h : decide (t ∈ ls) = false := h
      exact absurd this (of_decide_eq_false h)
theorem accF_nx (s c : Nat) (w : List Nat) : M.accF s (c :: w) = ((M.nx s c).map fun t => M.accF t w).getD false := by
  rw [accF_cons]
  cases M.nx s c <;> rfl
/-- what is added is right -/
theorem Use.sound (U : Use M ms ls) {H : List Np} (h : Hd M (ms.filter (lvB ls)) H) {s t : Nat} (ha : apB M ls H s t = true) : ¬ M.req s t := fun rq => by
  unfold apB at ha
  rcases Bool.or_eq_true_iff.mp ha with h1 | h1
  · have : M.fin s = M.fin t := rq []
    rw [this] at h1
    simp at h1
  · obtain ⟨c, _, hc⟩ := List.any_eq_true.mp h1
    unfold apC at hc
    have key : ∀ w, ((M.nx s c).map fun x => M.accF x w).getD false = ((M.nx t c).map fun x => M.accF x w).getD false := fun w => by
      rw [← accF_nx, ← accF_nx]; exact rq (c :: w)
    have live_of : ∀ x, inO x ls = true → ∃ t w, x = some t ∧ M.accF t w = true := fun x hx => by
      cases x with
      | none => cases hx
      | some t =>
        obtain ⟨w, hw⟩ := (U.lv t).mp (of_decide_eq_true hx)
        exact ⟨t, w, rfl, hw⟩
    rcases Bool.or_eq_true_iff.mp hc with h2 | h2
    · cases e1 : inO (M.nx s c) ls with
      | true =>
        cases e2 : inO (M.nx t c) ls with
        | true => rw [e1, e2] at h2; simp at h2
        | false =>
          obtain ⟨x, w, ex, hw⟩ := live_of _ e1
          have := key w
          rw [U.dead e2 w, ex] at this
          have this : M.accF x w = false := this
          rw [hw] at this; cases this
      | false =>
        cases e2 : inO (M.nx t c) ls with
        | false => rw [e1, e2] at h2; simp at h2
        | true =>
          obtain ⟨x, w, ex, hw⟩ := live_of _ e2
          have := key w
          rw [U.dead e1 w, ex] at this
          have this : false = M.accF x w := this
          rw [hw] at this; cases this
    · obtain ⟨h3, h4⟩ := Bool.and_eq_true_iff.mp h2
      cases ex : M.nx s c with
      | none => rw [ex] at h3; cases h3
      | some a =>
        cases ey : M.nx t c with
        | none => rw [ex, ey] at h4; cases h4
        | some b =>
          rw [ex, ey] at h4
          have h4 : (a, b) ∈ H := of_decide_eq_true h4
          refine (h.ok _ h4).2.2 fun w => ?_
          have := key w
          rw [ex, ey] at this
          exact this
/-- where nothing more is held apart, what is not held apart is the same -/
theorem Use.whole (U : Use M ms ls) {H : List Np} (cl : ∀ s ∈ ms.filter (lvB ls), ∀ t ∈ ms.filter (lvB ls), (s, t) ∈ H ∨ apB M ls H s t = false) : ∀ (w : List Nat) s, s ∈ ms.filter (lvB ls) → ∀ t, t ∈ ms.filter (lvB ls) → (s, t) ∉ H → M.accF s w = M.accF t w
  | [], s, hs, t, ht, hn => by
    have h := (cl s hs t ht).resolve_left hn
    unfold apB at h
    have := (Bool.or_eq_false_iff.mp h).1
    show M.fin s = M.fin t
    simpa using this
  | c :: w, s, hs, t, ht, hn => by
    by_cases hc : c < M.L
    · have h := (cl s hs t ht).resolve_left hn
      unfold apB at h
      have h1 := List.any_eq_false.mp (Bool.or_eq_false_iff.mp h).2 c (List.mem_range.mpr hc)
      have h1 : apC M ls H s t c = false := by simpa using h1
      unfold apC at h1
      obtain ⟨h2, h3⟩ := Bool.or_eq_false_iff.mp h1
      have h2 : inO (M.nx s c) ls = inO (M.nx t c) ls := by simpa using h2
      rw [accF_nx, accF_nx]
      cases e1 : inO (M.nx s c) ls with
      | false => rw [U.dead e1 w, U.dead (h2 ▸ e1) w]
      | true =>
        rw [e1] at h3 h2
        cases ex : M.nx s c with
        | none => rw [ex] at e1; cases e1
        | some a =>
          cases ey : M.nx t c with
          | none => rw [ey] at h2; cases h2
          | some b =>
            rw [ex, ey] at h3
            rw [ex] at e1
            rw [ey] at h2
            have ha : a ∈ ls := of_decide_eq_true e1
            have hb : b ∈ ls := of_decide_eq_true h2.symm
            have h3 : (a, b) ∉ H := fun z => by
              have : (true && decide ((a, b) ∈ H)) = false := h3
              rw [decide_eq_true z] at this
              cases this
            show M.accF a w = M.accF b w
            exact U.whole cl w a (U.nx hs ex ha) b (U.nx ht ey hb) h3
    · rw [accF_nx, accF_nx, nx_ge U.ok (by omega), nx_ge U.ok (by omega)]
/-- the law's relation -/
def rB (H : List Np) (s t : Nat) : Bool := !decide ((s, t) ∈ H)
theorem Use.prt (U : Use M ms ls) {H : List Np} (h : Hd M (ms.filter (lvB ls)) H) (h0 : 0 ∈ ls) (cl : ∀ s ∈ ms.filter (lvB ls), ∀ t ∈ ms.filter (lvB ls), (s, t) ∈ H ∨ apB M ls H s t = false) : Prt M ms (lvB ls) (rB H) where
  ok := U.ok
  A := U.A
  live := fun s _ => by
    unfold lvB
    rw [decide_eq_true_iff, U.lv]
  h0 := decide_eq_true h0
  req := fun s hs t ht => by
    unfold rB
    constructor
    · intro z w
      refine U.whole cl w s hs t ht fun hm => ?_
      rw [decide_eq_true hm] at z
      cases z
    · intro rq
      have : (s, t) ∉ H := fun hm => (h.ok _ hm).2.2 rq
      rw [decide_eq_false this]; rfl
end
theorem first_at (r : Nat → Bool) (n k : Nat) (hk : k < n) (h1 : r k = true) (h2 : ∀ j, j < k → r j = false) : ∃ rest, (List.range n).filter r = k :: rest := by
  have e : ((List.range n).filter r).head? = some k := by
    rw [List.head?_filter, List.find?_range_eq_some]
    exact ⟨h1, List.mem_range.mpr hk, fun j hj => by rw [h2 j hj]; rfl⟩
  cases hf : (List.range n).filter r with
  | nil => rw [hf] at e; cases e
  | cons x xs => rw [hf] at e; cases e; exact ⟨xs, rfl⟩
end PS
end
section
local macro_rules | `(tactic| walk_at "rdx") => `(tactic| simp only [PD.pad, PD.gt_z, PD.gt_s, PD.st_z, PD.st_s, PD.sNextD, PD.sSeqD, PD.sBreakD, PD.sContD, PD.sDropD, PD.sRetD, PD.sRetND, PD.sIfD, PD.sNeverD, PD.sAsgD, PD.sPar2, PD.sPar3, PD.gNameD, PD.gNilD, PD.gConsD, PD.gTupD, PD.gSubD, PD.tNilD, PD.tConsD, PD.tTupD, PD.tLstV, PD.tLstR, PD.tBin, PD.tTst, PD.tAndD, PD.tOrD, PD.tNotD, PD.tIfD, PD.tAndV, PD.tOrV, PD.tNotV, PD.tUnD, PD.rNeg, PD.tCallD, PD.tSlot, PD.tCD, PD.tChainD, PD.rIsN, PD.rNotN, PD.rIsiD, PD.isi_non, PD.isi_bl, PD.isi_int, PD.isi_str, PD.isi_tup, PD.isi_lst, PD.isi_dic, PD.Ty.name, PD.rCmpI, PD.fLt, PD.fLe, PD.fGt, PD.fGe, PD.rAddD, PD.rSubD, PD.rFdivD, PD.rModD, PD.rPowD, PD.rMulD, PD.rAddR, PD.rMulR, PD.rMin2, PD.rMax2, PD.tRevSD, PD.tLcItD, PD.tLcKyD, PD.rDictP, PD.tListRng, PD.rPopI, PD.rGtN, PD.sLcKyD, PD.rIxL, PD.rEqE, PD.tOrX, PD.rNeE, PD.tlOf, PD.asSeq, PD.asLst, PD.rLenD, PD.rTupleD, PD.rListV, PD.rListR, PD.rIntD, PD.rBoolD, PD.rAbsD, PD.rIxD, PD.oNone, PD.oSome, PD.tSlD, PD.rSlD, PD.tRevTD, PD.rEqD, PD.rNeD, PD.nrm_non, PD.nrm_bl, PD.nrm_int, PD.nrm_str, PD.nrm_tup, PD.nrm_lst, PD.nrm_dic, PD.nrm_ref, PD.iSeqD, PD.iRng1D, PD.iRng2D, PD.sForD, PD.tLcV, PD.tLcR, PD.tYesD, PD.wipeD, PD.tMethL, PD.rAppD, PD.isRefL, PD.tDicV, PD.keyOf, PD.asDic, PD.srcD, PD.iAnyD, PD.iZipD, PD.iEnumD, PD.tDcV, PD.tDicR, PD.gSubX, PD.rSetX, PD.rIxX, PD.rInD, PD.rInX, PD.rInY, PD.rInZ, PD.rSumD, PD.tRevLD, PD.tRevX, PD.rSixD, PD.rJoinD, PD.tMethS, PD.rLixD, PD.rPopD, PD.rExtD, PD.tMethA, PD.rSetD, PD.rReprD, PD.eqk_int, PD.eqd_int, PD.eqk_str, PD.eqd_str, PD.eqk_lst0, PD.eqd_lst0, PD.eqk_tup0, PD.eqd_tup0, PD.tdOf, PD.rInW, PD.rIxW, PD.rSetW, PD.gSubW, PD.rLenW, PD.rGetW, PD.rGetAt, PD.tMethW, PD.rSetdW, PD.tDispR, PD.tPairsD, PD.putAll, PD.tDisp1T, PD.gSeqD, PD.rListW, PD.tLenSetD, PD.tFldD, PD.fldD, PD.tMethC, PD.methD, PD.tMakeD, PD.sFldD, PD.tMethB, PD.rLjD, PD.tCallX, PD.sRetX, PD.sRaiseD, PD.sTryD, PD.hdlD, PD.noX, PD.rExtX, PD.rTupleX, PD.gUnpD, PD.tDictZ, PD.rInP, PD.rLixP, PD.tCallE, PD.tNilL, PD.tConsL, PD.tLamL, PD.tCallL, PD.tMethCL, PD.tAlt, PD.tMake0, PD.tDispV, Option.map_some, Option.bind_some, PD.spFn, PD.spDraw, reduceIte, true_and, and_true, or_false, false_or, Bool.not_true, Bool.not_false, Bool.false_eq_true, List.length_cons, List.length_nil, List.set_cons_zero, List.set_cons_succ, PD.HD.set_same, PD.HD.tick_hp, PD.HD.tick_c, PD.HD.tick_dk, PD.HD.set_c, PD.HD.set_dk])
local macro_rules | `(tactic| simp_all only [$xs,*]) => `(tactic| simp only [PD.pad, PD.gt_z, PD.gt_s, PD.st_z, PD.st_s, PD.sNextD, PD.sSeqD, PD.sBreakD, PD.sContD, PD.sDropD, PD.sRetD, PD.sRetND, PD.sIfD, PD.sNeverD, PD.sAsgD, PD.sPar2, PD.sPar3, PD.gNameD, PD.gNilD, PD.gConsD, PD.gTupD, PD.gSubD, PD.tNilD, PD.tConsD, PD.tTupD, PD.tLstV, PD.tLstR, PD.tBin, PD.tTst, PD.tAndD, PD.tOrD, PD.tNotD, PD.tIfD, PD.tAndV, PD.tOrV, PD.tNotV, PD.tUnD, PD.rNeg, PD.tCallD, PD.tSlot, PD.tCD, PD.tChainD, PD.rIsN, PD.rNotN, PD.rIsiD, PD.isi_non, PD.isi_bl, PD.isi_int, PD.isi_str, PD.isi_tup, PD.isi_lst, PD.isi_dic, PD.Ty.name, PD.rCmpI, PD.fLt, PD.fLe, PD.fGt, PD.fGe, PD.rAddD, PD.rSubD, PD.rFdivD, PD.rModD, PD.rPowD, PD.rMulD, PD.rAddR, PD.rMulR, PD.rMin2, PD.rMax2, PD.tRevSD, PD.tLcItD, PD.tLcKyD, PD.rDictP, PD.tListRng, PD.rPopI, PD.rGtN, PD.sLcKyD, PD.rIxL, PD.rEqE, PD.tOrX, PD.rNeE, PD.tlOf, PD.asSeq, PD.asLst, PD.rLenD, PD.rTupleD, PD.rListV, PD.rListR, PD.rIntD, PD.rBoolD, PD.rAbsD, PD.rIxD, PD.oNone, PD.oSome, PD.tSlD, PD.rSlD, PD.tRevTD, PD.rEqD, PD.rNeD, PD.nrm_non, PD.nrm_bl, PD.nrm_int, PD.nrm_str, PD.nrm_tup, PD.nrm_lst, PD.nrm_dic, PD.nrm_ref, PD.iSeqD, PD.iRng1D, PD.iRng2D, PD.sForD, PD.tLcV, PD.tLcR, PD.tYesD, PD.wipeD, PD.tMethL, PD.rAppD, PD.isRefL, PD.tDicV, PD.keyOf, PD.asDic, PD.srcD, PD.iAnyD, PD.iZipD, PD.iEnumD, PD.tDcV, PD.tDicR, PD.gSubX, PD.rSetX, PD.rIxX, PD.rInD, PD.rInX, PD.rInY, PD.rInZ, PD.rSumD, PD.tRevLD, PD.tRevX, PD.rSixD, PD.rJoinD, PD.tMethS, PD.rLixD, PD.rPopD, PD.rExtD, PD.tMethA, PD.rSetD, PD.rReprD, PD.eqk_int, PD.eqd_int, PD.eqk_str, PD.eqd_str, PD.eqk_lst0, PD.eqd_lst0, PD.eqk_tup0, PD.eqd_tup0, PD.tdOf, PD.rInW, PD.rIxW, PD.rSetW, PD.gSubW, PD.rLenW, PD.rGetW, PD.rGetAt, PD.tMethW, PD.rSetdW, PD.tDispR, PD.tPairsD, PD.putAll, PD.tDisp1T, PD.gSeqD, PD.rListW, PD.tLenSetD, PD.tFldD, PD.fldD, PD.tMethC, PD.methD, PD.tMakeD, PD.sFldD, PD.tMethB, PD.rLjD, PD.tCallX, PD.sRetX, PD.sRaiseD, PD.sTryD, PD.hdlD, PD.noX, PD.rExtX, PD.rTupleX, PD.gUnpD, PD.tDictZ, PD.rInP, PD.rLixP, PD.tCallE, PD.tNilL, PD.tConsL, PD.tLamL, PD.tCallL, PD.tMethCL, PD.tAlt, PD.tMake0, PD.tDispV, Option.map_some, Option.bind_some, PD.spFn, PD.spDraw, reduceIte, true_and, and_true, or_false, false_or, Bool.not_true, Bool.not_false, Bool.false_eq_true, List.length_cons, List.length_nil, List.set_cons_zero, List.set_cons_succ, PD.HD.set_same, PD.HD.tick_hp, PD.HD.tick_c, PD.HD.tick_dk, PD.HD.set_c, PD.HD.set_dk, $xs,*])
/-! PS7: the law's smallest machine. -/
namespace PS
open PySem PySem.Spec PyProof.Rows PD PM
def spLeastL (w : World) : SpD := fun ds S Q => ∃ M : Mch, ds = [natD M.L, rowsE M, endsE M] ∧ M.Ok ∧ ∀ N : Mch, N.Ok → Smallest N → N.L = M.L → (∀ v, N.acc v = M.acc v) → Q (enc N) S
theorem leastL_len {w : World} (ds : List D) (S : HD) (Q : QD) (h : spLeastL w ds S Q) : ds.length = 3 := by
  obtain ⟨_, rfl, _⟩ := h
  rfl
theorem leastL_ok {w : World} (ds : List D) (S : HD) (Q : QD) (h : spLeastL w ds S Q) : rd__law_least w spOpenL spMetL (spApt w) (ends Q) (pad 17 ds) S := by
  obtain ⟨M, rfl, ok, q⟩ := h
  have n4 := ok.n4
  have n1 := ok.n1
  have hsl : (sizeLine : Nat) = 16777216 := rfl
  unfold rd__law_least
  refine seq_step fun N1 hN1 => ?_
  walk_at "rdx"
  refine ⟨M, rfl, ok, fun ls lnd lv => hN1 _ _ ?_⟩
  clear hN1 N1
  refine seq_step fun N1 hN1 => ?_
  walk_at "rdx"
  have e0 : hasK (dnat (fun _ => D.bl true) ls) (.inl ((0 : Nat) : Int)) = decide (0 ∈ ls) := hasK_nat _ _ _
  have e0 : hasK (dnat (fun _ => D.bl true) ls) (.inl 0) = decide (0 ∈ ls) := e0
  simp only [e0]
  by_cases h0 : 0 ∈ ls
  · rw [decide_eq_true h0]
    simp only [Bool.not_true, Bool.false_eq_true, if_false]
    refine hN1 _ _ ?_
    clear hN1 N1 e0
    -- the states
    refine seq_step fun N1 hN1 => ?_
    generalize hT : (tTst (tBin (rInW w false) (tSlot 10) (tSlot 3)) : TTD) = T1
    generalize hg : (gNameD 10 : TGD) = g
    generalize hO : (tSlot 10 : TED) = O1
    walk_at "rdx"
    refine ⟨M, rfl, ok, fun ms A => fun hz => ⟨hz, ?_⟩⟩
    refine lc_filtF natD natD (lvB ls) trivial ms (fun s hs Q1 Q0 h => ?_) (hN1 _ _ ?_)
    · subst hT hg hO
      unfold lvB at h
      walk_at "rdx"
      simp only [hasK_nat]
      exact h
    clear hN1 N1 hT hg hO
    have U : Use M ms ls := ⟨ok, A, lnd, lv⟩
    have stl : ∀ s ∈ ms.filter (lvB ls), s < M.rows.length := fun s hs => A.lt s (List.mem_filter.mp hs).1
    have stn : (ms.filter (lvB ls)).Nodup := A.nd.filter _
    have stlen := lt_len stn stl
    generalize hst : ms.filter (lvB ls) = st at stl stn stlen
    -- what is held apart
    refine seq_step fun N1 hN1 => ?_
    unfold tDicW
    walk_at "rdx"
    refine .inr ?_
    unfold tDicT
    walk_at "rdx"
    refine fun p hp => ⟨by decide, hN1 _ _ ?_⟩
    clear hN1 N1
    refine seq_step fun N1 hN1 => ?_
    let I : Nat → SD → HD → Prop := fun m σ S' => ∃ (H : List Np) (many : Int) (v7 v8 : Option D), σ = [some (natD M.L), some (rowsE M), some (endsE M), some (.dic (dnat (fun _ => .bl true) ls)), some (.lst (st.map natD)), some (.ref p), some (.int many), v7, v8, none, none, none, none, none, none, none, none] ∧
      S'.hp p = some (.dct w (htb H)) ∧ Up 0 S S' ∧ Hd M st H ∧ -1 ≤ many ∧ many ≤ H.length ∧ (many = H.length → ∀ s ∈ st, ∀ t ∈ st, (s, t) ∈ H ∨ apB M ls H s t = false) ∧ m = st.length * st.length + 1 - (many + 1).toNat
    have sq : st.length * st.length ≤ 160000 := Nat.mul_le_mul (show st.length ≤ 400 by omega) (show st.length ≤ 400 by omega)
    refine while_go I (n := st.length * st.length + 1) (fun m σ S' N ⟨H, many, v7, v8, e1, e2, u, J, m1, m2, cl, em⟩ k => ?_) ⟨[], -1, none, none, rfl, HD.set_same, (Up.refl S).set hp, ⟨List.nodup_nil, fun _ h => nomatch h⟩, by omega, by simp, fun z => by simp at z, rfl⟩
    subst e1
    have hl2 := J.len
    have hbl : (htb H).length = H.length := by unfold htb; rw [List.length_map]
    generalize hb1 : (sForD _ _ _ : TSD) = tb
    walk_at "rdx"
    simp only [e2, hbl, nrm_int, eqk_int, eqd_int, true_and]
    by_cases hm : ((H.length : Nat) : Int) = many
    · rw [decide_eq_true hm]
      simp only [Bool.not_true, Bool.false_eq_true, if_false]
      refine hN1 _ _ ?_
      clear k hN1 N1 hb1
      have P : Prt M ms (lvB ls) (rB H) := U.prt (by rw [hst]; exact J) h0 (by rw [hst]; exact cl hm.symm)
      obtain ⟨d1, d2, d3⟩ := P.least
      have hsub := heads_sub (rB H) (ms.filter (lvB ls))
      have pcls : ∀ s, s ∈ ms.filter (lvB ls) → _ := fun s hs => P.cls (s := s) hs
      have puniq := fun i h s => P.uniq (i := i) (h := h) (s := s)
      rw [hst] at d1 d2 d3 hsub pcls puniq
      have kn : ∀ a b : Nat, keyT (.tup [.int (a : Nat), .int (b : Nat)]) = some (nK (a, b)) := fun a b => key_n (a, b)
      have nP9 : ∀ {S9 : HD} {p9 : Addr}, S9.hp p = some (.dct w (htb H)) → S9.hp p9 = none → p ≠ p9 := fun {S9 p9} h1 h2 e => by rw [e, h2] at h1; cases h1
      refine seq_step fun N1 hN1 => ?_
      walk_at "rdx"
      refine ⟨by decide, fun p9 hp9 => hN1 _ _ ?_⟩
      clear hN1 N1
      have np9 := nP9 e2 hp9
      have e2' : (S'.set p9 (.lst [])).hp p = some (.dct w (htb H)) := by rw [HD.set_ne np9]; exact e2
      have e9' : (S'.set p9 (.lst [])).hp p9 = some (.lst []) := HD.set_same
      have u' : Up 0 S (S'.set p9 (.lst [])) := u.set (Up.none u hp9)
      have z9 : S.hp p9 = none := Up.none u hp9
      generalize (S'.set p9 (.lst [])) = S1 at e2' e9' u' ⊢
      clear e2 u hp9
      refine seq_step fun N1 hN1 => ?_
      generalize hB : (sIfD (tTst (tBin rEqD _ _)) _ _ : TSD) = B1
      walk_at "rdx"
      refine fun _ => loopD_go (fun i σ S2 => (∃ (v10 v12 : Option D), σ = [some (natD M.L), some (rowsE M), some (endsE M), some (.dic (dnat (fun _ => .bl true) ls)), some (.lst (st.map natD)), some (.ref p), some (.int many), v7, v8, some (.ref p9), v10, none, v12, none, none, none, none]) ∧
          S2.hp p9 = some (.lst ((heads (rB H) (st.take i)).map natD)) ∧ S2.hp p = some (.dct w (htb H)) ∧ Up 0 S S2)
        ⟨⟨_, _, rfl⟩, e9', e2', u'⟩ (fun i d σ S2 N2 hi ⟨⟨v10, v12, f1⟩, f2, f3, f4⟩ k2 => ⟨trivial, ?_⟩) fun σ S2 ⟨⟨v10, v12, f1⟩, f2, f3, f4⟩ => ⟨trivial, ?_⟩
      · subst f1
        rw [List.getElem?_map] at hi
        obtain ⟨a, ha, rfl⟩ := Option.map_eq_some_iff.mp hi
        have hgl : (heads (rB H) (st.take i)).length ≤ 400 := by
          have h1 := (heads_sub (rB H) (st.take i)).length_le
          rw [List.length_take] at h1
          omega
        walk_at "rdx"
        subst hB
        generalize hT : (tTst (tBin (rInW w true) _ (tSlot 5)) : TTD) = T1
        generalize hg : (gNameD 12 : TGD) = g
        generalize hO : (tSlot 12 : TED) = O1
        walk_at "rdx"
        simp only [f2]
        refine fun hz => ⟨hz, ?_⟩
        refine lc_filtF natD natD (fun h => rB H h a) f2 (heads (rB H) (st.take i)) (fun h hh Q1 Q0 hy => ?_) ?_
        · subst hT hg hO
          walk_at "rdx"
          simp only [f3, kn, hasT_h, true_and]
          exact ⟨by decide, nK_dep _, hy⟩
        clear hT hg hO
        refine ⟨by decide, ?_⟩
        have hs1 : heads (rB H) (st.take (i + 1)) = hstep (rB H) (heads (rB H) (st.take i)) a := by rw [List.take_add_one, ha]; exact heads_snoc _ _ _
        generalize heads (rB H) (st.take i) = hs at f2 hgl hs1
        have hh : (List.map natD (hs.filter fun h => rB H h a)).isEmpty = !hs.any fun h => rB H h a := by
          clear f2 hgl hs1
          induction hs with
          | nil => rfl
          | cons x hs ih =>
            rw [List.filter_cons, List.any_cons]
            cases hx : rB H x a with
            | true => rfl
            | false => rw [if_neg Bool.false_ne_true, Bool.false_or]; exact ih
        rw [hh]
        unfold hstep at hs1
        cases hy : hs.any fun h => rB H h a with
        | true =>
          rw [hy, if_pos rfl] at hs1
          simp only [Bool.not_true, Bool.false_eq_true, if_false]
          exact k2 _ _ ⟨⟨_, _, rfl⟩, by rw [hs1]; exact f2, f3, f4⟩
        | false =>
          rw [hy, if_neg Bool.false_ne_true] at hs1
          simp only [Bool.not_false, if_true, f2]
          refine ⟨⟨_, rfl⟩, by rw [List.length_map]; omega, k2 _ _ ⟨⟨_, _, rfl⟩, by rw [hs1, HD.set_same, List.map_append]; rfl, by rw [HD.set_ne np9]; exact f3, f4.set z9⟩⟩
      · subst f1
        refine hN1 _ _ ?_
        clear hN1 N1 hB
        rw [List.length_map, List.take_length] at f2
        have hsl2 : (heads (rB H) st).length ≤ 400 := by
          have h1 := hsub.length_le
          omega
        have hss : ∀ h ∈ heads (rB H) st, h ∈ st := fun h hh => hsub.subset hh
        generalize hhs : heads (rB H) st = hs at f2 hsl2 hss d1 d2 d3 pcls puniq
        refine seq_step fun N1 hN1 => ?_
        walk_at "rdx"
        refine ⟨by decide, fun p11 hp11 => hN1 _ _ ?_⟩
        clear hN1 N1
        have n11 := nP9 f3 hp11
        have n911 : p9 ≠ p11 := fun e => by rw [e, hp11] at f2; cases f2
        have g1 : (S2.set p11 (.lst [])).hp p = some (.dct w (htb H)) := by rw [HD.set_ne n11]; exact f3
        have g2 : (S2.set p11 (.lst [])).hp p9 = some (.lst (hs.map natD)) := by rw [HD.set_ne n911]; exact f2
        have g3 : (S2.set p11 (.lst [])).hp p11 = some (.lst []) := HD.set_same
        have g4 : Up 0 S (S2.set p11 (.lst [])) := f4.set (Up.none f4 hp11)
        have z11 : S.hp p11 = none := Up.none f4 hp11
        generalize (S2.set p11 (.lst [])) = S3 at g1 g2 g3 g4 ⊢
        clear f2 f3 f4 hp11
        refine seq_step fun N1 hN1 => ?_
        generalize hB : (sSeqD (sAsgD (tLstR _) (gNameD 13)) _ : TSD) = B1
        walk_at "rdx"
        simp only [g2]
        refine fun _ => loopD_go (fun i σ S2 => (∃ (v12 v13 v14 v15 v16 : Option D), σ = [some (natD M.L), some (rowsE M), some (endsE M), some (.dic (dnat (fun _ => .bl true) ls)), some (.lst (st.map natD)), some (.ref p), some (.int many), v7, v8, some (.ref p9), v10, some (.ref p11), v12, v13, v14, v15, v16]) ∧
            S2.hp p11 = some (.lst (((rowsF M (rB H) st hs).take i).map PM.encR)) ∧ S2.hp p9 = some (.lst (hs.map natD)) ∧ S2.hp p = some (.dct w (htb H)) ∧ Up 0 S S2)
          ⟨⟨_, _, _, _, _, rfl⟩, g3, g2, g1, g4⟩ (fun i d σ S2 N2 hi ⟨⟨v12, v13, v14, v15, v16, f1⟩, f2, f3, f4, f5⟩ k2 => ⟨f3, ?_⟩) fun σ S2 ⟨⟨v12, v13, v14, v15, v16, f1⟩, f2, f3, f4, f5⟩ => ⟨f3, ?_⟩
        · subst f1
          rw [List.getElem?_map] at hi
          obtain ⟨h, hh, rfl⟩ := Option.map_eq_some_iff.mp hi
          have hhm := hss h (List.mem_of_getElem? hh)
          have hil := (List.getElem?_eq_some_iff.mp hh).1
          obtain ⟨row, r1, r2, r3, r4⟩ := rowE_at ok (stl h hhm)
          walk_at "rdx"
          subst hB
          refine seq_step fun N3 hN3 => ?_
          walk_at "rdx"
          refine ⟨by decide, fun p13 hp13 => hN3 _ _ ?_⟩
          clear hN3 N3
          have n13 := nP9 f4 hp13
          have n913 : p9 ≠ p13 := fun e => by rw [e, hp13] at f3; cases f3
          have n1113 : p11 ≠ p13 := fun e => by rw [e, hp13] at f2; cases f2
          have j1 : (S2.set p13 (.lst [])).hp p = some (.dct w (htb H)) := by rw [HD.set_ne n13]; exact f4
          have j2 : (S2.set p13 (.lst [])).hp p9 = some (.lst (hs.map natD)) := by rw [HD.set_ne n913]; exact f3
          have j3 : (S2.set p13 (.lst [])).hp p11 = some (.lst (((rowsF M (rB H) st hs).take i).map PM.encR)) := by rw [HD.set_ne n1113]; exact f2
          have j4 : Up 0 S (S2.set p13 (.lst [])) := f5.set (Up.none f5 hp13)
          have j5 : (S2.set p13 (.lst [])).hp p13 = some (.lst []) := HD.set_same
          have z13 : S.hp p13 = none := Up.none f5 hp13
          generalize (S2.set p13 (.lst [])) = S4 at j1 j2 j3 j4 j5 ⊢
          clear f2 f3 f4 f5 hp13
          refine seq_step fun N3 hN3 => ?_
          generalize hB : (sSeqD (sAsgD (tLcV _ _ _ _ _) (gNameD 15)) _ : TSD) = B1
          unfold rowsE
          walk_at "rdx"
          simp only [r3]
          refine fun _ => loopD_go (fun c σ S5 => (∃ (v14 v15 v16 : Option D), σ = [some (natD M.L), some (.tup (M.rows.map PM.encR)), some (endsE M), some (.dic (dnat (fun _ => .bl true) ls)), some (.lst (st.map natD)), some (.ref p), some (.int many), v7, v8, some (.ref p9), v10, some (.ref p11), some (natD h), some (.ref p13), v14, v15, v16]) ∧
              S5.hp p13 = some (.lst (((List.range c).map fun c => cellF (rB H) st hs (M.nx h c)).map encC)) ∧ S5.hp p11 = some (.lst (((rowsF M (rB H) st hs).take i).map PM.encR)) ∧ S5.hp p9 = some (.lst (hs.map natD)) ∧ S5.hp p = some (.dct w (htb H)) ∧ Up 0 S S5)
            ⟨⟨_, _, _, rfl⟩, j5, j3, j2, j1, j4⟩ (fun c d σ S5 N5 hc ⟨⟨v14, v15, v16, y1⟩, y2, y3, y4, y5, y6⟩ k5 => ⟨trivial, ?_⟩) fun σ S5 ⟨⟨v14, v15, v16, y1⟩, y2, y3, y4, y5, y6⟩ => ⟨trivial, ?_⟩
          · subst y1
            obtain ⟨x, hx, rfl⟩ := encC_get hc
            have hnx : M.nx h c = x := by rw [← r4, hx]; rfl
            have hcl : c < M.L := by rw [← r2]; exact (List.getElem?_eq_some_iff.mp hx).1
            have hs3 := ok.l3
            walk_at "rdx"
            subst hB
            refine seq_step fun N6 hN6 => ?_
            generalize hT : (tAndD (tTst (tBin (rInW w false) _ _)) _ : TTD) = T1
            generalize hg : (gNameD 16 : TGD) = g
            generalize hO : (tSlot 16 : TED) = O1
            walk_at "rdx"
            simp only [y4, List.length_map, Int.toNat_natCast, rngD_nat, List.length_range]
            let pr : Nat → Bool := fun k => match hs[k]? with
              | some h' => inO x ls && !inP (some h') x H
              | none => false
            refine ⟨⟨by omega, by omega⟩, by omega, ?_⟩
            refine lc_filtF natD natD pr trivial (List.range hs.length) (fun k hk Q1 Q0 hy => ?_) ?_
            · subst hT hg hO
              have hkl := List.mem_range.mp hk
              have hk2 := List.getElem?_eq_getElem hkl
              generalize hs[k] = h' at hk2
              have ek : L2.atI (hs.map natD) (k : Int) = some (natD h') := atI_nat' (f := natD) hk2
              have hy : if (inO x ls && !inP (some h') x H) = true then Q1 (natD k) S5 else Q0 S5 := by
                have : pr k = (inO x ls && !inP (some h') x H) := by show (match hs[k]? with | some h' => inO x ls && !inP (some h') x H | none => false) = _; rw [hk2]
                rw [this] at hy
                exact hy
              cases x with
              | none =>
                unfold encC
                walk_at "rdx"
                exact hy
              | some t =>
                unfold encC
                walk_at "rdx"
                simp only [hasK_nat]
                cases ht : decide (t ∈ ls) with
                | false =>
                  simp only [inO, ht, Bool.false_and] at hy
                  exact hy
                | true =>
                  simp only [inO, inP, ht, Bool.true_and] at hy
                  simp only [y4, ek, y5, kn, hasT_h, true_and]
                  rw [if_pos trivial]
                  exact ⟨by decide, nK_dep _, hy⟩
            clear hT hg hO
            have hcell : (cellF (rB H) st hs x = none ∧ (List.range hs.length).filter pr = []) ∨ ∃ k rest, cellF (rB H) st hs x = some k ∧ (List.range hs.length).filter pr = k :: rest := by
              have nil_of : inO x ls = false → (List.range hs.length).filter pr = [] := fun e => by
                rw [List.filter_eq_nil_iff]
                intro k _
                show ¬ (match hs[k]? with | some h' => inO x ls && !inP (some h') x H | none => false) = true
                cases hs[k]? with
                | none => exact Bool.false_ne_true
                | some h' => rw [e]; exact Bool.false_ne_true
              cases x with
              | none => exact .inl ⟨rfl, nil_of rfl⟩
              | some t =>
                by_cases ht : t ∈ ls
                · right
                  have hts : t ∈ st := by
                    have := U.nx (s := h) (by rw [hst]; exact hhm) hnx ht
                    rw [hst] at this; exact this
                  obtain ⟨h', c1, c2, _⟩ := pcls t hts
                  have hkl := (List.getElem?_eq_some_iff.mp c1).1
                  have pk : ∀ j h'', hs[j]? = some h'' → pr j = rB H h'' t := fun j h'' e => by
                    show (match hs[j]? with | some h' => inO (some t) ls && !inP (some h') (some t) H | none => false) = _
                    rw [e]
                    show (decide (t ∈ ls) && !decide ((h'', t) ∈ H)) = !decide ((h'', t) ∈ H)
                    rw [decide_eq_true ht, Bool.true_and]
                  have rq : ∀ h'' ∈ st, (rB H h'' t = true ↔ M.req h'' t) := fun h'' hm => P.req h'' (by rw [hst]; exact hm) t (by rw [hst]; exact hts)
                  obtain ⟨rest, e⟩ := first_at pr hs.length _ hkl (by rw [pk _ _ c1]; exact (rq h' (hss h' (List.mem_of_getElem? c1))).mpr c2) fun j hj => by
                    have hj2 := List.getElem?_eq_getElem (show j < hs.length by omega)
                    rw [pk j _ hj2]
                    cases e : rB H hs[j] t with
                    | false => rfl
                    | true =>
                      have := puniq j _ t hj2 hts ((rq _ (hss _ (List.getElem_mem _))).mp e)
                      omega
                  exact ⟨_, rest, if_pos hts, e⟩
                · refine .inl ⟨if_neg fun hts => ht ?_, nil_of (decide_eq_false ht)⟩
                  rw [← hst] at hts
                  exact (U.lv t).mpr (U.st.mp hts).2
            have next : ∀ S6 v14 v15 v16, S6 = S5.set p13 (.lst (((List.range c).map fun c => cellF (rB H) st hs (M.nx h c)).map encC ++ [encC (cellF (rB H) st hs x)])) → N5 [some (natD M.L), some (.tup (M.rows.map PM.encR)), some (endsE M), some (.dic (dnat (fun _ => .bl true) ls)), some (.lst (st.map natD)), some (.ref p), some (.int many), v7, v8, some (.ref p9), v10, some (.ref p11), some (natD h), some (.ref p13), v14, v15, v16] S6 := fun S6 v14 v15 v16 e => by
              subst e
              refine k5 _ _ ⟨⟨_, _, _, rfl⟩, ?_, by rw [HD.set_ne n1113]; exact y3, by rw [HD.set_ne n913]; exact y4, by rw [HD.set_ne n13]; exact y5, y6.set z13⟩
              rw [HD.set_same, List.range_succ, List.map_append, List.map_append, ← hnx]
              rfl
            have hcm : (((List.range c).map fun c => cellF (rB H) st hs (M.nx h c)).map encC).length < 16000000 := by simp only [List.length_map, List.length_range]; omega
            refine hN6 _ _ ?_
            clear hN6 N6
            rcases hcell with ⟨e1, e2⟩ | ⟨k, rest, e1, e2⟩
            · rw [e2]
              rw [e1] at next
              walk_at "rdx"
              simp only [y2]
              exact ⟨⟨_, rfl⟩, by decide, hcm, next _ _ _ _ rfl⟩
            · rw [e2]
              rw [e1] at next
              walk_at "rdx"
              simp only [y2]
              have ez : L2.atI (List.map natD (k :: rest)) ((0 : Nat) : Int) = some (natD k) := atI_nat' (f := natD) rfl
              have ez : L2.atI (List.map natD (k :: rest)) 0 = some (natD k) := ez
              refine ⟨⟨_, rfl⟩, by decide, ?_⟩
              rw [if_pos (show (!(List.map natD (k :: rest)).isEmpty) = true from rfl)]
              simp only [ez]
              exact ⟨hcm, next _ _ _ _ rfl⟩
          · subst y1
            refine hN3 _ _ ?_
            clear hN3 N3 hB
            walk_at "rdx"
            simp only [y2, y3]
            have hrl : (rowsF M (rB H) st hs).length = hs.length := by unfold rowsF; rw [List.length_map]
            have hri : (rowsF M (rB H) st hs)[i]? = some ((List.range M.L).map fun c => cellF (rB H) st hs (M.nx h c)) := by unfold rowsF; rw [List.getElem?_map, hh]; rfl
            refine ⟨⟨_, rfl⟩, by rw [List.length_map, List.length_take]; omega, k2 _ _ ⟨⟨_, _, _, _, _, rfl⟩, ?_, by rw [HD.set_ne n911]; exact y4, by rw [HD.set_ne n11]; exact y5, y6.set z11⟩⟩
            rw [HD.set_same, List.take_add_one, hri, List.map_append, List.length_map, r2]
            rfl
        · subst f1
          refine hN1 _ _ ?_
          clear hN1 N1 hB
          have hrl : (rowsF M (rB H) st hs).length = hs.length := by unfold rowsF; rw [List.length_map]
          rw [List.length_map, ← hrl, List.take_length] at f2
          generalize hC : (tCallD rBoolD _ : TED) = C1
          generalize hg : (gNameD 12 : TGD) = g
          walk_at "rdx"
          simp only [f2, f3]
          refine fun hz => ⟨hz, lc_filtF natD (fun h => .bl (M.fin h)) (fun _ => true) f3 hs (fun h hh Q1 Q0 hy => ?_) ?_⟩
          · subst hC hg
            have eh : L2.atI (M.ends.map D.bl) (h : Int) = some (.bl (M.fin h)) := end_at ok (stl h (hss h hh))
            unfold endsE
            walk_at "rdx"
            simp only [eh]
            exact hy
          · refine ⟨by decide, ?_⟩
            rw [List.filter_eq_self.mpr fun _ _ => rfl]
            have h9 := q (mOf M hs (rowsF M (rB H) st hs)) d1 d2 rfl d3
            have e9 : enc (mOf M hs (rowsF M (rB H) st hs)) = .tup [natD M.L, .tup ((rowsF M (rB H) st hs).map PM.encR), .tup (hs.map fun h => D.bl (M.fin h))] := by
              unfold enc mOf
              simp only [List.map_map]
              rfl
            rw [e9] at h9
            exact f5.fin h9
    · rw [decide_eq_false hm]
      simp only [Bool.not_false, if_true]
      subst hb1
      have kn : ∀ a b : Nat, keyT (.tup [.int (a : Nat), .int (b : Nat)]) = some (nK (a, b)) := fun a b => key_n (a, b)
      generalize hB : (sForD (iAnyD (tSlot 4)) (gNameD 8) _ : TSD) = B1
      walk_at "rdx"
      refine fun _ => loopD_go (fun i σ S2 => ∃ (G : List Np) (v7 v8 : Option D), σ = [some (natD M.L), some (rowsE M), some (endsE M), some (.dic (dnat (fun _ => .bl true) ls)), some (.lst (st.map natD)), some (.ref p), some (.int (H.length : Nat)), v7, v8, none, none, none, none, none, none, none, none] ∧
          S2.hp p = some (.dct w (htb G)) ∧ Up 0 S S2 ∧ Hd M st G ∧ H.length ≤ G.length ∧ (G.length = H.length → G = H ∧ ∀ a ∈ st.take i, ∀ b ∈ st, (a, b) ∈ H ∨ apB M ls H a b = false))
        ⟨H, _, _, rfl, e2, u, J, Nat.le_refl _, fun _ => ⟨rfl, fun a ha => by simp at ha⟩⟩ (fun i d σ S2 N2 hi ⟨G, v7, v8, f1, f2, f3, f4, f5, f6⟩ k2 => ⟨trivial, ?_⟩) fun σ S2 ⟨G, v7, v8, f1, f2, f3, f4, f5, f6⟩ => ⟨trivial, ?_⟩
      · subst f1
        rw [List.getElem?_map] at hi
        obtain ⟨a, ha, rfl⟩ := Option.map_eq_some_iff.mp hi
        have ham := List.mem_of_getElem? ha
        walk_at "rdx"
        subst hB
        generalize hB : (sIfD _ _ _ : TSD) = B1
        walk_at "rdx"
        refine fun _ => loopD_go (fun j σ S3 => ∃ (G : List Np) (v8 : Option D), σ = [some (natD M.L), some (rowsE M), some (endsE M), some (.dic (dnat (fun _ => .bl true) ls)), some (.lst (st.map natD)), some (.ref p), some (.int (H.length : Nat)), some (natD a), v8, none, none, none, none, none, none, none, none] ∧
            S3.hp p = some (.dct w (htb G)) ∧ Up 0 S S3 ∧ Hd M st G ∧ H.length ≤ G.length ∧ (G.length = H.length → G = H ∧ (∀ a ∈ st.take i, ∀ b ∈ st, (a, b) ∈ H ∨ apB M ls H a b = false) ∧ ∀ b ∈ st.take j, (a, b) ∈ H ∨ apB M ls H a b = false))
          ⟨G, _, rfl, f2, f3, f4, f5, fun z => ⟨(f6 z).1, (f6 z).2, fun b hb => by simp at hb⟩⟩ (fun j d σ S3 N3 hj ⟨G, v8, g1, g2, g3, g4, g5, g6⟩ k3 => ⟨trivial, ?_⟩) fun σ S3 ⟨G, v8, g1, g2, g3, g4, g5, g6⟩ => ⟨trivial, ?_⟩
        · subst g1
          rw [List.getElem?_map] at hj
          obtain ⟨b, hb, rfl⟩ := Option.map_eq_some_iff.mp hj
          have hbm := List.mem_of_getElem? hb
          have same : ((a, b) ∈ G ∨ apB M ls G a b = false) → G.length = H.length → G = H ∧ (∀ a ∈ st.take i, ∀ b ∈ st, (a, b) ∈ H ∨ apB M ls H a b = false) ∧ ∀ b ∈ st.take (j + 1), (a, b) ∈ H ∨ apB M ls H a b = false := fun hh z => by
            obtain ⟨y1, y2, y3⟩ := g6 z
            refine ⟨y1, y2, fun x hx => ?_⟩
            rw [List.take_add_one, hb] at hx
            rcases List.mem_append.mp hx with h | h
            · exact y3 x h
            · have : x = b := by simpa using h
              rw [this, ← y1]; exact hh
          walk_at "rdx"
          subst hB
          walk_at "rdx"
          simp only [g2, kn, hasT_h, true_and]
          refine ⟨by decide, nK_dep _, ?_⟩
          by_cases hin : (a, b) ∈ G
          · simp only [hin, decide_true, Bool.not_true, Bool.false_eq_true, if_false]
            exact k3 _ _ ⟨G, _, rfl, g2, g3, g4, g5, same (.inl hin)⟩
          · simp only [hin, decide_false, Bool.not_false, if_true]
            refine ⟨by decide, M, ls, p, G, a, b, rfl, ok, stl a ham, stl b hbm, g2, ?_⟩
            cases hap : apB M ls G a b with
            | false => exact k3 _ _ ⟨G, _, rfl, g2, g3, g4, g5, same (.inr hap)⟩
            | true =>
              have gl := g4.len
              have e9 : putT (htb G) (.tup [.int (a : Nat), .int (b : Nat)]) (nK (a, b)) (.bl true) = htb (G ++ [(a, b)]) := putT_h hin
              have hbg : (htb G).length = G.length := by unfold htb; rw [List.length_map]
              simp only [if_true, g2, e9, hbg, true_and]
              refine ⟨by decide, nK_dep _, by omega, k3 _ _ ⟨G ++ [(a, b)], _, rfl, HD.set_same, g3.set hp, ⟨?_, fun x hx => ?_⟩, by rw [List.length_append]; omega, fun z => ?_⟩⟩
              · rw [List.nodup_append]
                exact ⟨g4.nd, by simp, fun x hx y hy e => hin (by rw [List.mem_singleton.mp hy] at e; exact e ▸ hx)⟩
              · rcases List.mem_append.mp hx with h | h
                · exact g4.ok x h
                · rw [List.mem_singleton.mp h]
                  exact ⟨ham, hbm, U.sound (by rw [hst]; exact g4) hap⟩
              · rw [List.length_append] at z
                have h9 : ([(a, b)] : List Np).length = 1 := rfl
                omega
        · subst g1
          refine k2 _ _ ⟨G, _, _, rfl, g2, g3, g4, g5, fun z => ⟨(g6 z).1, fun x hx => ?_⟩⟩
          obtain ⟨y1, y2, y3⟩ := g6 z
          rw [List.length_map, List.take_length] at y3
          rw [List.take_add_one, ha] at hx
          rcases List.mem_append.mp hx with h | h
          · exact y2 x h
          · have : x = a := by simpa using h
            rw [this]; exact y3
      · subst f1
        have gl := f4.len
        refine k (st.length * st.length + 1 - (H.length + 1)) _ _ ?_ ⟨G, H.length, _, _, rfl, f2, f3, f4, by omega, by omega, fun z => ?_, by omega⟩
        · omega
        · obtain ⟨y1, y2⟩ := f6 (by omega)
          rw [List.length_map, List.take_length] at y2
          rw [y1]
          exact y2
  · rw [decide_eq_false h0]
    simp only [Bool.not_false, if_true]
    have l1 := ok.l1
    have l3 := ok.l3
    refine ⟨by decide, ⟨by omega, by omega, by decide⟩, by decide, by decide, by decide, fin.here ?_⟩
    have h9 := q (triv M.L) (triv_ok l1 l3) (.inr ⟨rfl, fun v => triv_acc v⟩) rfl fun v => by
      rw [triv_acc, acc_F]
      cases e : M.accF 0 v with
      | false => rfl
      | true => exact absurd ((lv 0).mpr ⟨v, e⟩) h0
    rw [Int.toNat_natCast, triv_row]
    exact h9
end PS
/-! PS8: machines with the same words; each state twice. -/
namespace PS
open PySem PySem.Spec PyProof.Rows PD PM
/-- the states of N stand for states of M, or for a dead one -/
structure Sim (M N : Mch) (φ : Nat → Option Nat) (P : Nat → Prop) : Prop where
  z : φ 0 = some 0
  p0 : P 0
  nx : ∀ x, P x → ∀ c, (∀ y, N.nx x c = some y → P y ∧ φ y = M.nxo (φ x) c) ∧ (N.nx x c = none → M.nxo (φ x) c = none)
  fin : ∀ x, P x → N.fin x = match φ x with
    | some s => M.fin s
    | none => false
theorem Sim.accF {M N : Mch} {φ : Nat → Option Nat} {P : Nat → Prop} (h : Sim M N φ P) : ∀ (w : List Nat) x, P x → N.accF x w = match φ x with
    | some s => M.accF s w
    | none => false
  | [], x, hx => by
    rw [accF_nil, h.fin x hx]
    cases φ x <;> rfl
  | c :: w, x, hx => by
    obtain ⟨h1, h2⟩ := h.nx x hx c
    rw [accF_nx]
    cases e : N.nx x c with
    | none =>
      have := h2 e
      cases ex : φ x with
      | none => rfl
      | some s =>
        rw [ex] at this
        have this : M.nx s c = none := this
        show false = M.accF s (c :: w)
        rw [accF_nx, this]; rfl
    | some y =>
      obtain ⟨p, q⟩ := h1 y e
      show N.accF y w = _
      rw [h.accF w y p, q]
      cases ex : φ x with
      | none => rfl
      | some s =>
        show (match M.nx s c with | some s => M.accF s w | none => false) = M.accF s (c :: w)
        rw [accF_nx]
        cases M.nx s c <;> rfl
theorem Sim.acc {M N : Mch} {φ : Nat → Option Nat} {P : Nat → Prop} (h : Sim M N φ P) (w : List Nat) : N.acc w = M.acc w := by
  rw [acc_F, acc_F, h.accF w 0 h.p0, h.z]
/-- each state twice -/
structure Dbl (M : Mch) (rows : List (List (Option Nat))) (k : Nat) : Prop where
  len : rows.length = k
  row : ∀ i r, rows[i]? = some r → r.length = M.L ∧ ∀ c, c < M.L → (M.nx (i % M.rows.length) c = none ∧ r[c]? = some none) ∨ ∃ t y, M.nx (i % M.rows.length) c = some t ∧ r[c]? = some (some y) ∧ (y = t ∨ y = t + M.rows.length)
theorem dbl_nx {M : Mch} {N : Mch} {k : Nat} (h : Dbl M N.rows k) (hL : N.L = M.L) (ok : M.Ok) {x : Nat} (hx : x < k) (c : Nat) : (M.nx (x % M.rows.length) c = none ∧ N.nx x c = none) ∨ ∃ t y, M.nx (x % M.rows.length) c = some t ∧ N.nx x c = some y ∧ (y = t ∨ y = t + M.rows.length) := by
  have hl : x < N.rows.length := by rw [h.len]; exact hx
  have hr := List.getElem?_eq_getElem hl
  generalize N.rows[x] = r at hr
  obtain ⟨r1, r2⟩ := h.row x r hr
  have hn : N.nx x c = (r[c]?).bind id := by unfold Mch.nx; rw [hr]; rfl
  by_cases hc : c < M.L
  · rcases r2 c hc with ⟨a, b⟩ | ⟨t, y, a, b, e⟩
    · exact .inl ⟨a, by rw [hn, b]; rfl⟩
    · exact .inr ⟨t, y, a, by rw [hn, b]; rfl, e⟩
  · exact .inl ⟨nx_ge ok (by omega), by rw [hn, List.getElem?_eq_none (by omega)]; rfl⟩
theorem dbl_ok {M : Mch} (ok : M.Ok) {rows : List (List (Option Nat))} (h : Dbl M rows (2 * M.rows.length)) (hn : 2 * M.rows.length ≤ 400) : (Mch.mk M.L rows (M.ends ++ M.ends)).Ok ∧ ∀ w, (Mch.mk M.L rows (M.ends ++ M.ends)).acc w = M.acc w := by
  have n1 := ok.n1
  have en := ok.en
  have O : (Mch.mk M.L rows (M.ends ++ M.ends)).Ok := ⟨ok.l1, ok.l3, by show 1 ≤ rows.length; rw [h.len]; omega, by show rows.length ≤ 400; rw [h.len]; omega, by show (M.ends ++ M.ends).length = rows.length; rw [List.length_append, h.len, en]; omega, fun r hr => by
    obtain ⟨i, hi⟩ := List.mem_iff_getElem?.mp hr
    exact (h.row i r hi).1, fun r hr c hc t ht => by
    subst ht
    obtain ⟨i, hi⟩ := List.mem_iff_getElem?.mp hr
    obtain ⟨k, hk⟩ := List.mem_iff_getElem?.mp hc
    obtain ⟨a1, a2⟩ := h.row i r hi
    have hkl := (List.getElem?_eq_some_iff.mp hk).1
    show t < rows.length
    rw [h.len]
    rcases a2 k (by omega) with ⟨_, b⟩ | ⟨t', y, b1, b2, b3⟩
    · rw [hk] at b; cases b
    · rw [hk] at b2
      cases b2
      have := M.nx_lt ok b1
      omega⟩
  refine ⟨O, Sim.acc (φ := fun x => some (x % M.rows.length)) (P := fun x => x < 2 * M.rows.length) ⟨by show some (0 % M.rows.length) = _; rw [Nat.zero_mod], by show 0 < 2 * M.rows.length; omega, fun x hx c => ?_, fun x hx => ?_⟩⟩
  · rcases dbl_nx (N := Mch.mk M.L rows (M.ends ++ M.ends)) h rfl ok hx c with ⟨a, b⟩ | ⟨t, y, a, b, e⟩
    · exact ⟨(fun y hy => by rw [b] at hy; cases hy), fun _ => a⟩
    · have ht := M.nx_lt ok a
      refine ⟨fun y' hy => ?_, fun z => by rw [b] at z; cases z⟩
      rw [b] at hy
      cases hy
      refine ⟨by omega, ?_⟩
      show some (y % M.rows.length) = M.nx (x % M.rows.length) c
      rw [a]
      rcases e with rfl | rfl
      · rw [Nat.mod_eq_of_lt ht]
      · rw [Nat.add_mod_right, Nat.mod_eq_of_lt ht]
  · show ((M.ends ++ M.ends)[x]?).getD false = (M.ends[x % M.rows.length]?).getD false
    by_cases h1 : x < M.rows.length
    · rw [List.getElem?_append_left (by omega), Nat.mod_eq_of_lt h1]
    · rw [List.getElem?_append_right (by omega), en]
      have : x % M.rows.length = x - M.rows.length := by
        rw [Nat.mod_eq_sub_mod (by omega), Nat.mod_eq_of_lt (by omega)]
      rw [this]
def spDbl : SpD := fun ds S Q => ∃ M : Mch, ds = [.deck, enc M] ∧ M.Ok ∧ 2 * M.rows.length ≤ 400 ∧ S.c + 3000 ≤ 1000000000000 ∧ ∀ N : Mch, N.Ok → N.L = M.L → N.rows.length = 2 * M.rows.length → (∀ w, N.acc w = M.acc w) → Q (enc N) (S.tick 2400)
theorem dbl_len (ds : List D) (S : HD) (Q : QD) (h : spDbl ds S Q) : ds.length = 2 := by
  obtain ⟨_, rfl, _⟩ := h
  rfl
theorem dblL_ok (ds : List D) (S : HD) (Q : QD) (h : spDbl ds S Q) : rd__law_doubled spDraw (ends Q) (pad 9 ds) S := by
  obtain ⟨M, rfl, ok, hn, hc, q⟩ := h
  have n1 := ok.n1
  have l3 := ok.l3
  have en := ok.en
  have hsl : (sizeLine : Nat) = 16777216 := rfl
  unfold rd__law_doubled enc
  refine seq_step fun N1 hN1 => ?_
  walk_at "rdx"
  refine hN1 _ _ ?_
  clear hN1 N1
  refine seq_step fun N1 hN1 => ?_
  walk_at "rdx"
  rw [List.length_map]
  refine ⟨by decide, fun p hp => ⟨by decide, hN1 _ _ ?_⟩⟩
  clear hN1 N1
  refine seq_step fun N1 hN1 => ?_
  generalize hB : (sDropD _ : TSD) = B1
  walk_at "rdx"
  have hRl : (M.rows.map PM.encR ++ M.rows.map PM.encR).length = 2 * M.rows.length := by rw [List.length_append, List.length_map]; omega
  refine ⟨by rw [List.length_map]; omega, fun _ => ?_⟩
  refine loopD_go (fun i σ S' => ∃ (v7 v8 : Option D) (fr : List (List (Option Nat))), σ = [some .deck, some (.tup [.int (M.L : Nat), .tup (M.rows.map PM.encR), .tup (M.ends.map .bl)]), some (.int (M.L : Nat)), some (.tup (M.rows.map PM.encR)), some (.tup (M.ends.map .bl)), some (.int (M.rows.length : Nat)), some (.ref p), v7, v8] ∧
      S'.hp p = some (.lst (fr.map PM.encR)) ∧ Up (3 * i) S S' ∧ Dbl M fr i)
    ⟨_, _, [], rfl, HD.set_same, (Up.refl S).set hp, ⟨rfl, fun i r h => by simp at h⟩⟩ (fun i d σ S' N hi ⟨v7, v8, fr, e1, e2, e3, e4⟩ k => ⟨trivial, ?_⟩) fun σ S' ⟨v7, v8, fr, e1, e2, e3, e4⟩ => ⟨trivial, ?_⟩
  · subst e1
    have hil : i < 2 * M.rows.length := by rw [← hRl]; exact (List.getElem?_eq_some_iff.mp hi).1
    have him : i % M.rows.length < M.rows.length := Nat.mod_lt _ (by omega)
    obtain ⟨row, r1, r2, r3, r4⟩ := rowE_at ok him
    have hd : d = .tup (row.map encC) := by
      have h1 : (M.rows ++ M.rows)[i]? = some row := by
        by_cases h : i < M.rows.length
        · rw [List.getElem?_append_left h, ← r1, Nat.mod_eq_of_lt h]
        · rw [List.getElem?_append_right (by omega), ← r1]
          have : i % M.rows.length = i - M.rows.length := by
            rw [Nat.mod_eq_sub_mod (by omega), Nat.mod_eq_of_lt (by omega)]
          rw [this]
      rw [← List.map_append, List.getElem?_map, h1] at hi
      cases hi
      rfl
    subst hd
    walk_at "rdx"
    subst hB
    generalize hT : (tIfD (tTst (tUnD rIsN (tSlot 8))) _ _ : TED) = T1
    generalize hg : (gNameD 8 : TGD) = g
    walk_at "rdx"
    simp only [e2]
    have e4l := e4.len
    have uc := e3.c
    refine ⟨⟨_, rfl⟩, fun hz => ⟨hz, ?_⟩⟩
    refine lcD_go (fun c acc S2 => ∃ cs : List (Option Nat), acc = cs.map encC ∧ cs.length = c ∧ (∀ c', c' < c → (M.nx (i % M.rows.length) c' = none ∧ cs[c']? = some none) ∨ ∃ t y, M.nx (i % M.rows.length) c' = some t ∧ cs[c']? = some (some y) ∧ (y = t ∨ y = t + M.rows.length)) ∧
        S2.hp p = some (.lst (fr.map PM.encR)) ∧ Up (3 * i + c) S S2)
      ⟨[], rfl, rfl, fun c' h => absurd h (Nat.not_lt_zero _), e2, e3⟩ (fun c d acc S2 N2 hc' ⟨cs, f1, f2, f3, f4, f5⟩ kk => ⟨trivial, ?_⟩) fun acc S2 ⟨cs, f1, f2, f3, f4, f5⟩ => ⟨trivial, ?_⟩
    · subst f1
      obtain ⟨x, hx, rfl⟩ := encC_get hc'
      have hcl : c < M.L := by rw [← r2]; exact (List.getElem?_eq_some_iff.mp hx).1
      have hnx : M.nx (i % M.rows.length) c = x := by rw [← r4, hx]; rfl
      have u5 := f5.c
      have next : ∀ y, ((x = none ∧ y = none) ∨ ∃ t z, x = some t ∧ y = some z ∧ (z = t ∨ z = t + M.rows.length)) → ∀ c', c' < c + 1 → (M.nx (i % M.rows.length) c' = none ∧ (cs ++ [y])[c']? = some none) ∨ ∃ t z, M.nx (i % M.rows.length) c' = some t ∧ (cs ++ [y])[c']? = some (some z) ∧ (z = t ∨ z = t + M.rows.length) := fun y hy c' h => by
        by_cases e : c' = c
        · rw [e, hnx, List.getElem?_append_right (by omega), f2, Nat.sub_self]
          rcases hy with ⟨rfl, rfl⟩ | ⟨t, z, rfl, rfl, hz⟩
          · exact .inl ⟨rfl, rfl⟩
          · exact .inr ⟨t, z, rfl, rfl, hz⟩
        · rw [List.getElem?_append_left (by omega)]
          exact f3 c' (by omega)
      subst hT hg
      cases x with
      | none =>
        rw [show encC none = D.non from rfl]
        walk_at "rdx"
        exact kk _ _ ⟨cs ++ [none], by rw [List.map_append]; rfl, by rw [List.length_append, f2]; rfl, next none (.inl ⟨rfl, rfl⟩), f4, f5.mono (by omega)⟩
      | some t =>
        have ht := M.nx_lt ok hnx
        rw [show encC (some t) = D.int (t : Nat) from rfl]
        walk_at "rdx"
        rw [if_neg (show ¬ isN (D.int (t : Nat)) = true from Bool.false_ne_true)]
        refine ⟨⟨by decide, by decide, by omega⟩, fun r h0 h2 => ⟨?_, ?_⟩⟩
        · exact .inl ⟨by omega, by omega⟩
        · have hr : r = 0 ∨ r = 1 := by omega
          rcases hr with rfl | rfl
          · refine kk _ _ ⟨cs ++ [some t], by rw [List.map_append, Int.mul_zero, Int.add_zero]; rfl, by rw [List.length_append, f2]; rfl, next (some t) (.inr ⟨t, t, rfl, rfl, .inl rfl⟩), f4, (f5.tick (k := 1)).mono (by omega)⟩
          · refine kk _ _ ⟨cs ++ [some (t + M.rows.length)], ?_, by rw [List.length_append, f2]; rfl, next (some (t + M.rows.length)) (.inr ⟨t, t + M.rows.length, rfl, rfl, .inr rfl⟩), f4, (f5.tick (k := 1)).mono (by omega)⟩
            rw [List.map_append, Int.mul_one]
            show _ = cs.map encC ++ [D.int ((t + M.rows.length : Nat) : Int)]
            rw [Int.natCast_add]
    · subst f1
      have f2' : cs.length = M.L := by rw [f2, List.length_map, r2]
      simp only [f4]
      refine ⟨by rw [List.length_map]; omega, k _ _ ⟨_, _, fr ++ [cs], rfl, by rw [HD.set_same, List.map_append]; rfl, ?_, ⟨by rw [List.length_append, e4.len]; rfl, fun j r' hj => ?_⟩⟩⟩
      · rw [List.length_map, r2] at f5
        exact (f5.set hp).mono (by omega)
      · by_cases h : j < i
        · rw [List.getElem?_append_left (by rw [e4.len]; exact h)] at hj
          exact e4.row j r' hj
        · have hjl := (List.getElem?_eq_some_iff.mp hj).1
          rw [List.length_append, e4.len] at hjl
          have h9 : ([cs] : List (List (Option Nat))).length = 1 := rfl
          have hji : j = i := by omega
          subst hji
          rw [List.getElem?_append_right (by rw [e4.len]; omega), e4.len, Nat.sub_self] at hj
          cases hj
          exact ⟨f2', fun c hc => f3 c (by rw [List.length_map, r2]; exact hc)⟩
  · subst e1
    refine hN1 _ _ ?_
    clear hN1 N1 hB
    rw [hRl] at e3 e4
    walk_at "rdx"
    simp only [e2]
    obtain ⟨o1, o2⟩ := dbl_ok ok e4 hn
    refine ⟨by rw [List.length_map]; omega, by decide, ?_⟩
    have h9 := q _ o1 rfl e4.len o2
    have e9 : enc (Mch.mk M.L fr (M.ends ++ M.ends)) = .tup [.int (M.L : Nat), .tup (fr.map PM.encR), .tup (M.ends.map .bl ++ M.ends.map .bl)] := by
      unfold enc
      rw [List.map_append]
    rw [e9] at h9
    exact (e3.mono (show 3 * (2 * M.rows.length) ≤ 2400 by omega)).fin h9
end PS
/-! PS9: states that lead nowhere, and such as no words come to. -/
namespace PS
open PySem PySem.Spec PyProof.Rows PD PM
structure Mor (M : Mch) (rows : List (List (Option Nat))) (k : Nat) : Prop where
  len : rows.length = k
  row : ∀ i r, rows[i]? = some r → r.length = M.L ∧ ∀ c, c < M.L → (M.nx i c = none ∧ (r[c]? = some none ∨ r[c]? = some (some M.rows.length))) ∨ ∃ t, M.nx i c = some t ∧ r[c]? = some (some t)
def morM (M : Mch) (fr : List (List (Option Nat))) (ex : List (Option Nat)) (b : Bool) : Mch := ⟨M.L, fr ++ [List.replicate M.L (some M.rows.length), ex], M.ends ++ [false, b]⟩
theorem mor_ok {M : Mch} (ok : M.Ok) {fr : List (List (Option Nat))} (h : Mor M fr M.rows.length) (hn : M.rows.length + 2 ≤ 400) {ex : List (Option Nat)} (hx : ex.length = M.L) (hx2 : ∀ t, some t ∈ ex → t < M.rows.length + 2) (b : Bool) : (morM M fr ex b).Ok ∧ ∀ w, (morM M fr ex b).acc w = M.acc w := by
  have n1 := ok.n1
  have en := ok.en
  have rl : (morM M fr ex b).rows.length = M.rows.length + 2 := by
    show (fr ++ [List.replicate M.L (some M.rows.length), ex]).length = _
    rw [List.length_append, h.len]; rfl
  have O : (morM M fr ex b).Ok := ⟨ok.l1, ok.l3, by rw [rl]; omega, by rw [rl]; omega, by rw [rl]; show (M.ends ++ [false, b]).length = _; rw [List.length_append, en]; rfl, fun r hr => by
    rcases List.mem_append.mp hr with hr | hr
    · obtain ⟨i, hi⟩ := List.mem_iff_getElem?.mp hr
      exact (h.row i r hi).1
    · have : r = List.replicate M.L (some M.rows.length) ∨ r = ex := by simpa using hr
      rcases this with rfl | rfl
      · exact List.length_replicate
      · exact hx, fun r hr c hc t ht => by
    subst ht
    rw [rl]
    rcases List.mem_append.mp hr with hr | hr
    · obtain ⟨i, hi⟩ := List.mem_iff_getElem?.mp hr
      obtain ⟨k, hk⟩ := List.mem_iff_getElem?.mp hc
      obtain ⟨a1, a2⟩ := h.row i r hi
      have hkl := (List.getElem?_eq_some_iff.mp hk).1
      rcases a2 k (by omega) with ⟨_, b | b⟩ | ⟨t', b1, b2⟩
      · rw [hk] at b; cases b
      · rw [hk] at b; cases b; omega
      · rw [hk] at b2
        cases b2
        have := M.nx_lt ok b1
        omega
    · have : r = List.replicate M.L (some M.rows.length) ∨ r = ex := by simpa using hr
      rcases this with rfl | rfl
      · have := List.eq_of_mem_replicate hc
        cases this; omega
      · exact hx2 t hc⟩
  have nxl : ∀ x, x < M.rows.length → ∀ c, (M.nx x c = none ∧ ((morM M fr ex b).nx x c = none ∨ (morM M fr ex b).nx x c = some M.rows.length)) ∨ ∃ t, M.nx x c = some t ∧ (morM M fr ex b).nx x c = some t := fun x hxl c => by
    have hl : x < fr.length := by rw [h.len]; exact hxl
    have hr := List.getElem?_eq_getElem hl
    generalize fr[x] = r at hr
    obtain ⟨r1, r2⟩ := h.row x r hr
    have hn : (morM M fr ex b).nx x c = (r[c]?).bind id := by
      unfold Mch.nx
      show (((fr ++ _)[x]?).bind (·[c]?)).bind id = _
      rw [List.getElem?_append_left hl, hr]; rfl
    by_cases hc : c < M.L
    · rcases r2 c hc with ⟨a, e | e⟩ | ⟨t, a, e⟩
      · exact .inl ⟨a, .inl (by rw [hn, e]; rfl)⟩
      · exact .inl ⟨a, .inr (by rw [hn, e]; rfl)⟩
      · exact .inr ⟨t, a, by rw [hn, e]; rfl⟩
    · exact .inl ⟨nx_ge ok (by omega), .inl (by rw [hn, List.getElem?_eq_none (by omega)]; rfl)⟩
  have nxd : ∀ c, (morM M fr ex b).nx M.rows.length c = none ∨ (morM M fr ex b).nx M.rows.length c = some M.rows.length := fun c => by
    have hn : (morM M fr ex b).nx M.rows.length c = ((List.replicate M.L (some M.rows.length))[c]?).bind id := by
      unfold Mch.nx
      show (((fr ++ [List.replicate M.L (some M.rows.length), ex])[M.rows.length]?).bind (·[c]?)).bind id = _
      rw [List.getElem?_append_right (by rw [h.len]; exact Nat.le_refl _), h.len, Nat.sub_self]; rfl
    rw [hn, List.getElem?_replicate]
    by_cases hc : c < M.L
    · rw [if_pos hc]; exact .inr rfl
    · rw [if_neg hc]; exact .inl rfl
  refine ⟨O, Sim.acc (φ := fun x => if x < M.rows.length then some x else none) (P := fun x => x ≤ M.rows.length) ⟨if_pos (by omega), Nat.zero_le _, fun x hx c => ?_, fun x hx => ?_⟩⟩
  · by_cases hxl : x < M.rows.length
    · rw [if_pos hxl]
      show (∀ y, (morM M fr ex b).nx x c = some y → y ≤ M.rows.length ∧ (if y < M.rows.length then some y else none) = M.nx x c) ∧ ((morM M fr ex b).nx x c = none → M.nx x c = none)
      rcases nxl x hxl c with ⟨a, e | e⟩ | ⟨t, a, e⟩
      · exact ⟨(fun y hy => by rw [e] at hy; cases hy), fun _ => a⟩
      · exact ⟨(fun y hy => by rw [e] at hy; cases hy; exact ⟨Nat.le_refl _, by rw [if_neg (Nat.lt_irrefl _), a]⟩), fun _ => a⟩
      · have ht := M.nx_lt ok a
        exact ⟨(fun y hy => by rw [e] at hy; cases hy; exact ⟨by omega, by rw [if_pos ht, a]⟩), fun z => by rw [e] at z; cases z⟩
    · have : x = M.rows.length := by omega
      subst this
      rw [if_neg (Nat.lt_irrefl _)]
      show (∀ y, (morM M fr ex b).nx M.rows.length c = some y → y ≤ M.rows.length ∧ (if y < M.rows.length then some y else none) = none) ∧ ((morM M fr ex b).nx M.rows.length c = none → none = none)
      rcases nxd c with e | e
      · exact ⟨(fun y hy => by rw [e] at hy; cases hy), fun _ => rfl⟩
      · exact ⟨(fun y hy => by rw [e] at hy; cases hy; exact ⟨Nat.le_refl _, if_neg (Nat.lt_irrefl _)⟩), fun _ => rfl⟩
  · show ((M.ends ++ [false, b])[x]?).getD false = _
    by_cases hxl : x < M.rows.length
    · rw [if_pos hxl, List.getElem?_append_left (by omega)]; rfl
    · have : x = M.rows.length := by omega
      subst this
      rw [if_neg (Nat.lt_irrefl _), List.getElem?_append_right (by omega), en, Nat.sub_self]
      rfl
def spMore : SpD := fun ds S Q => ∃ M : Mch, ds = [.deck, enc M] ∧ M.Ok ∧ M.rows.length + 2 ≤ 400 ∧ S.c + 3000 ≤ 1000000000000 ∧ ∀ N : Mch, N.Ok → N.L = M.L → N.rows.length = M.rows.length + 2 → (∀ w, N.acc w = M.acc w) → Q (enc N) (S.tick 1300)
theorem more_len (ds : List D) (S : HD) (Q : QD) (h : spMore ds S Q) : ds.length = 2 := by
  obtain ⟨_, rfl, _⟩ := h
  rfl
theorem more_ok (ds : List D) (S : HD) (Q : QD) (h : spMore ds S Q) : rd__law_more spOne spDraw (ends Q) (pad 10 ds) S := by
  obtain ⟨M, rfl, ok, hn, hc, q⟩ := h
  have n1 := ok.n1
  have l3 := ok.l3
  have l1 := ok.l1
  have en := ok.en
  have hsl : (sizeLine : Nat) = 16777216 := rfl
  unfold rd__law_more enc
  refine seq_step fun N1 hN1 => ?_
  walk_at "rdx"
  refine hN1 _ _ ?_
  clear hN1 N1
  refine seq_step fun N1 hN1 => ?_
  walk_at "rdx"
  rw [List.length_map]
  refine ⟨by decide, fun p hp => ⟨by decide, hN1 _ _ ?_⟩⟩
  clear hN1 N1
  refine seq_step fun N1 hN1 => ?_
  generalize hB : (sDropD _ : TSD) = B1
  walk_at "rdx"
  refine fun _ => ?_
  refine loopD_go (fun i σ S' => ∃ (v7 v8 : Option D) (fr : List (List (Option Nat))), σ = [some .deck, some (.tup [.int (M.L : Nat), .tup (M.rows.map PM.encR), .tup (M.ends.map .bl)]), some (.int (M.L : Nat)), some (.tup (M.rows.map PM.encR)), some (.tup (M.ends.map .bl)), some (.int (M.rows.length : Nat)), some (.ref p), v7, v8, none] ∧
      S'.hp p = some (.lst (fr.map PM.encR)) ∧ Up (3 * i) S S' ∧ Mor M fr i)
    ⟨_, _, [], rfl, HD.set_same, (Up.refl S).set hp, ⟨rfl, fun i r h => by simp at h⟩⟩ (fun i d σ S' N hi ⟨v7, v8, fr, e1, e2, e3, e4⟩ k => ⟨trivial, ?_⟩) fun σ S' ⟨v7, v8, fr, e1, e2, e3, e4⟩ => ⟨trivial, ?_⟩
  · subst e1
    rw [List.getElem?_map] at hi
    obtain ⟨row0, hr0, rfl⟩ := Option.map_eq_some_iff.mp hi
    have hil := (List.getElem?_eq_some_iff.mp hr0).1
    obtain ⟨row, r1, r2, r3, r4⟩ := rowE_at ok hil
    rw [hr0] at r1
    cases r1
    unfold PM.encR
    walk_at "rdx"
    subst hB
    generalize hT : (tIfD (tTst (tUnD rIsN (tSlot 8))) _ _ : TED) = T1
    generalize hg : (gNameD 8 : TGD) = g
    walk_at "rdx"
    simp only [e2]
    have e4l := e4.len
    have uc := e3.c
    refine ⟨⟨_, rfl⟩, fun hz => ⟨hz, ?_⟩⟩
    refine lcD_go (fun c acc S2 => ∃ cs : List (Option Nat), acc = cs.map encC ∧ cs.length = c ∧ (∀ c', c' < c → (M.nx i c' = none ∧ (cs[c']? = some none ∨ cs[c']? = some (some M.rows.length))) ∨ ∃ t, M.nx i c' = some t ∧ cs[c']? = some (some t)) ∧
        S2.hp p = some (.lst (fr.map PM.encR)) ∧ Up (3 * i + c) S S2)
      ⟨[], rfl, rfl, fun c' h => absurd h (Nat.not_lt_zero _), e2, e3⟩ (fun c d acc S2 N2 hc' ⟨cs, f1, f2, f3, f4, f5⟩ kk => ⟨trivial, ?_⟩) fun acc S2 ⟨cs, f1, f2, f3, f4, f5⟩ => ⟨trivial, ?_⟩
    · subst f1
      obtain ⟨x, hx, rfl⟩ := encC_get hc'
      have hcl : c < M.L := by rw [← r2]; exact (List.getElem?_eq_some_iff.mp hx).1
      have hnx : M.nx i c = x := by rw [← r4, hx]; rfl
      have u5 := f5.c
      have next : ∀ y, ((x = none ∧ (y = none ∨ y = some M.rows.length)) ∨ ∃ t, x = some t ∧ y = some t) → ∀ c', c' < c + 1 → (M.nx i c' = none ∧ ((cs ++ [y])[c']? = some none ∨ (cs ++ [y])[c']? = some (some M.rows.length))) ∨ ∃ t, M.nx i c' = some t ∧ (cs ++ [y])[c']? = some (some t) := fun y hy c' h => by
        by_cases e : c' = c
        · rw [e, hnx, List.getElem?_append_right (by omega), f2, Nat.sub_self]
          rcases hy with ⟨rfl, rfl | rfl⟩ | ⟨t, rfl, rfl⟩
          · exact .inl ⟨rfl, .inl rfl⟩
          · exact .inl ⟨rfl, .inr rfl⟩
          · exact .inr ⟨t, rfl, rfl⟩
        · rw [List.getElem?_append_left (by omega)]
          exact f3 c' (by omega)
      subst hT hg
      cases x with
      | none =>
        rw [show encC none = D.non from rfl]
        walk_at "rdx"
        rw [if_pos (show isN D.non = true from rfl)]
        refine ⟨by decide, _, _, rfl, rfl, by simp, by simp, by omega, fun o ho => ?_⟩
        have ho : o = .non ∨ o = .int (M.rows.length : Nat) := by simpa using ho
        rcases ho with rfl | rfl
        · exact kk _ _ ⟨cs ++ [none], by rw [List.map_append]; rfl, by rw [List.length_append, f2]; rfl, next none (.inl ⟨rfl, .inl rfl⟩), f4, (f5.tick (k := 1)).mono (by omega)⟩
        · exact kk _ _ ⟨cs ++ [some M.rows.length], by rw [List.map_append]; rfl, by rw [List.length_append, f2]; rfl, next (some M.rows.length) (.inl ⟨rfl, .inr rfl⟩), f4, (f5.tick (k := 1)).mono (by omega)⟩
      | some t =>
        rw [show encC (some t) = D.int (t : Nat) from rfl]
        walk_at "rdx"
        rw [if_neg (show ¬ isN (D.int (t : Nat)) = true from Bool.false_ne_true)]
        exact kk _ _ ⟨cs ++ [some t], by rw [List.map_append]; rfl, by rw [List.length_append, f2]; rfl, next (some t) (.inr ⟨t, rfl, rfl⟩), f4, f5.mono (by omega)⟩
    · subst f1
      have f2' : cs.length = M.L := by rw [f2, List.length_map, r2]
      simp only [f4]
      refine ⟨by rw [List.length_map]; omega, k _ _ ⟨_, _, fr ++ [cs], rfl, by rw [HD.set_same, List.map_append]; rfl, ?_, ⟨by rw [List.length_append, e4.len]; rfl, fun j r' hj => ?_⟩⟩⟩
      · rw [List.length_map, r2] at f5
        exact (f5.set hp).mono (by omega)
      · by_cases h : j < i
        · rw [List.getElem?_append_left (by rw [e4.len]; exact h)] at hj
          exact e4.row j r' hj
        · have hjl := (List.getElem?_eq_some_iff.mp hj).1
          rw [List.length_append, e4.len] at hjl
          have h9 : ([cs] : List (List (Option Nat))).length = 1 := rfl
          have hji : j = i := by omega
          subst hji
          rw [List.getElem?_append_right (by rw [e4.len]; omega), e4.len, Nat.sub_self] at hj
          cases hj
          exact ⟨f2', fun c hc => f3 c (by rw [List.length_map, r2]; exact hc)⟩
  · subst e1
    refine hN1 _ _ ?_
    clear hN1 N1 hB
    rw [List.length_map] at e3 e4
    refine seq_step fun N1 hN1 => ?_
    walk_at "rdx"
    simp only [e2]
    have e4l := e4.len
    have e3c := e3.c
    have er : (List.replicate (M.L : Int).toNat [D.int (M.rows.length : Nat)]).flatten = (List.replicate M.L (some M.rows.length)).map encC := by
      rw [Int.toNat_natCast]
      generalize M.L = n
      induction n with
      | zero => rfl
      | succ n ih => rw [List.replicate_succ, List.flatten_cons, ih, List.replicate_succ, List.map_cons]; rfl
    rw [er]
    refine ⟨⟨_, rfl⟩, by decide, ⟨by omega, by omega, by decide⟩, by rw [List.length_map]; omega, hN1 _ _ ?_⟩
    clear hN1 N1
    have g1 : (S'.set p (.lst (fr.map PM.encR ++ [.tup ((List.replicate M.L (some M.rows.length)).map encC)]))).hp p = some (.lst (fr.map PM.encR ++ [.tup ((List.replicate M.L (some M.rows.length)).map encC)])) := HD.set_same
    have g2 : Up (3 * M.rows.length) S (S'.set p (.lst (fr.map PM.encR ++ [.tup ((List.replicate M.L (some M.rows.length)).map encC)]))) := e3.set hp
    generalize (S'.set p (.lst (fr.map PM.encR ++ [.tup ((List.replicate M.L (some M.rows.length)).map encC)]))) = S1 at g1 g2 ⊢
    clear e2 e3 e3c
    have g2c := g2.c
    refine seq_step fun N1 hN1 => ?_
    generalize hT : (tCallD spDraw _ : TED) = T1
    generalize hg : (gNameD 9 : TGD) = g
    walk_at "rdx"
    simp only [g1, Int.toNat_natCast]
    refine ⟨⟨_, rfl⟩, ⟨by omega, by omega⟩, by simp only [rngD, List.length_map, List.length_range]; omega, ?_⟩
    refine lcD_go (fun c acc S2 => ∃ cs : List (Option Nat), acc = cs.map encC ∧ cs.length = c ∧ (∀ t, some t ∈ cs → t < M.rows.length + 2) ∧ S2.hp p = some (.lst (fr.map PM.encR ++ [.tup ((List.replicate M.L (some M.rows.length)).map encC)])) ∧ Up (3 * M.rows.length + c) S S2)
      ⟨[], rfl, rfl, fun t h => by simp at h, g1, g2⟩ (fun c d acc S2 N2 hc' ⟨cs, f1, f2, f3, f4, f5⟩ kk => ⟨trivial, ?_⟩) fun acc S2 ⟨cs, f1, f2, f3, f4, f5⟩ => ⟨trivial, ?_⟩
    · subst f1
      obtain ⟨hcl, rfl⟩ := rngD_get hc'
      have u5 := f5.c
      subst hT hg
      walk_at "rdx"
      refine ⟨⟨by omega, by omega, by omega⟩, fun r h0 h2 => ?_⟩
      obtain ⟨t, rfl⟩ : ∃ t : Nat, r = (t : Nat) := ⟨r.toNat, by omega⟩
      refine kk _ _ ⟨cs ++ [some t], by rw [List.map_append]; rfl, by rw [List.length_append, f2]; rfl, fun t' ht => ?_, f4, (f5.tick (k := 1)).mono (by omega)⟩
      rcases List.mem_append.mp ht with h | h
      · exact f3 t' h
      · have : t' = t := by simpa using h
        omega
    · subst f1
      have f2' : cs.length = M.L := by rw [f2]; simp [rngD]
      have f5 : Up (3 * M.rows.length + M.L) S S2 := by
        rw [← f2, f2'] at f5
        exact f5
      simp only [f4]
      refine ⟨by simp only [List.length_append, List.length_map, List.length_cons, List.length_nil]; omega, hN1 _ _ ?_⟩
      clear hN1 N1 hT hg
      have f5c := f5.c
      walk_at "rdx"
      refine ⟨⟨by decide, by decide, by omega⟩, fun r h0 h2 => ⟨by decide, by rw [List.length_map]; omega, by decide, ?_⟩⟩
      obtain ⟨o1, o2⟩ := mor_ok ok e4 hn f2' f3 (decide (r = 0))
      have h9 := q _ o1 rfl (by
        show (fr ++ [List.replicate M.L (some M.rows.length), cs]).length = _
        rw [List.length_append, e4.len]; rfl) o2
      have e9 : enc (morM M fr cs (decide (r = 0))) = .tup [.int (M.L : Nat), .tup (fr.map PM.encR ++ [.tup ((List.replicate M.L (some M.rows.length)).map encC)] ++ [.tup (cs.map encC)]), .tup (M.ends.map .bl ++ [.bl false, .bl (decide (r = 0))])] := by
        unfold enc morM
        simp only [List.map_append, List.append_assoc]
        rfl
      rw [e9] at h9
      exact (((f5.set hp).tick (k := 1)).mono (by omega)).fin h9
end PS
/-! PS10: the states in another order. -/
namespace PS
open PySem PySem.Spec PyProof.Rows PD PM
def mixR (M : Mch) (os : List Nat) (s : Nat) : List (Option Nat) := (List.range M.L).map fun c => (M.nx s c).map fun t => os.idxOf t
def mixM (M : Mch) (os : List Nat) : Mch := ⟨M.L, os.map (mixR M os), os.map M.fin⟩
theorem mix_ok {M : Mch} (ok : M.Ok) {os : List Nat} (h : os.Perm (List.range M.rows.length)) (h0 : os[0]? = some 0) : (mixM M os).Ok ∧ ∀ w, (mixM M os).acc w = M.acc w := by
  have n1 := ok.n1
  have hl : os.length = M.rows.length := by rw [h.length_eq, List.length_range]
  have nd : os.Nodup := h.nodup_iff.mpr List.nodup_range
  have mem : ∀ t, t ∈ os ↔ t < M.rows.length := fun t => by rw [h.mem_iff, List.mem_range]
  have rl : (mixM M os).rows.length = M.rows.length := by show (os.map _).length = _; rw [List.length_map, hl]
  have idx : ∀ t, t < M.rows.length → os.idxOf t < M.rows.length ∧ os[os.idxOf t]? = some t := fun t ht => by
    have h1 : os.idxOf t < os.length := List.idxOf_lt_length_of_mem ((mem t).mpr ht)
    exact ⟨hl ▸ h1, by rw [List.getElem?_eq_getElem h1, List.getElem_idxOf h1]⟩
  have O : (mixM M os).Ok := ⟨ok.l1, ok.l3, by rw [rl]; exact n1, by rw [rl]; exact ok.n4, by rw [rl]; show (os.map M.fin).length = _; rw [List.length_map, hl], fun r hr => by
    have hr : r ∈ os.map (mixR M os) := hr
    obtain ⟨s, _, rfl⟩ := List.mem_map.mp hr
    show ((List.range M.L).map _).length = M.L
    rw [List.length_map, List.length_range], fun r hr c hc t ht => by
    subst ht
    rw [rl]
    have hr : r ∈ os.map (mixR M os) := hr
    obtain ⟨s, _, rfl⟩ := List.mem_map.mp hr
    obtain ⟨k, _, hk⟩ := List.mem_map.mp hc
    obtain ⟨t', h1, rfl⟩ := Option.map_eq_some_iff.mp hk
    exact (idx t' (M.nx_lt ok h1)).1⟩
  have nxm : ∀ x s, os[x]? = some s → ∀ c, (mixM M os).nx x c = (M.nx s c).map fun t => os.idxOf t := fun x s hs c => by
    unfold Mch.nx
    show ((((os.map (mixR M os))[x]?).bind (·[c]?)).bind id) = _
    rw [List.getElem?_map, hs]
    show ((mixR M os s)[c]?).bind id = (M.nx s c).map _
    unfold mixR
    by_cases hc : c < M.L
    · simp [hc]
    · rw [nx_ge ok (by omega)]
      simp [hc]
  refine ⟨O, Sim.acc (φ := fun x => os[x]?) (P := fun x => x < M.rows.length) ⟨h0, by omega, fun x hx c => ?_, fun x hx => ?_⟩⟩
  · have hs := List.getElem?_eq_getElem (show x < os.length by omega)
    generalize os[x] = s at hs
    rw [hs, nxm x s hs c]
    show (∀ y, ((M.nx s c).map fun t => os.idxOf t) = some y → y < M.rows.length ∧ os[y]? = M.nx s c) ∧ (((M.nx s c).map fun t => os.idxOf t) = none → M.nx s c = none)
    cases e : M.nx s c with
    | none => exact ⟨(fun y hy => by cases hy), fun _ => rfl⟩
    | some t =>
      obtain ⟨a, b⟩ := idx t (M.nx_lt ok e)
      exact ⟨(fun y hy => by cases hy; exact ⟨a, b⟩), fun z => by cases z⟩
  · have hs := List.getElem?_eq_getElem (show x < os.length by omega)
    generalize os[x] = s at hs
    show ((os.map M.fin)[x]?).getD false = _
    rw [List.getElem?_map, hs]
    rfl
theorem ixF_nat {t : Nat} : ∀ {os : List Nat}, t ∈ os → ixF (natD t) (os.map natD) = some (os.idxOf t)
  | [], h => nomatch h
  | x :: os, h => by
    by_cases e : x = t
    · subst e
      have h1 : eqF (natD x) (natD x) = true := decide_eq_true rfl
      show (if eqF (natD x) (natD x) = true then some 0 else (ixF (natD x) (os.map natD)).map (· + 1)) = _
      rw [if_pos h1]
      simp
    · have h1 : eqF (natD x) (natD t) = false := decide_eq_false fun z => e (by omega)
      have h2 := ixF_nat ((List.mem_cons.mp h).resolve_left fun z => e z.symm)
      have hb : (x == t) = false := by simpa using e
      show (if eqF (natD x) (natD t) = true then some 0 else (ixF (natD t) (os.map natD)).map (· + 1)) = _
      rw [h1, if_neg Bool.false_ne_true, h2, List.idxOf_cons, hb]
      rfl
theorem perm_erase : ∀ (l : List Nat) (k : Nat) (h : k < l.length), (l[k] :: l.eraseIdx k).Perm l
  | [], _, h => absurd h (Nat.not_lt_zero _)
  | x :: l, 0, _ => List.Perm.refl _
  | x :: l, k + 1, h => by
    have h' : k < l.length := by simpa using h
    exact (List.Perm.swap x l[k] (l.eraseIdx k)).trans ((perm_erase l k h').cons x)
theorem erase_map (l : List Nat) (k : Nat) : (l.map natD).eraseIdx k = (l.eraseIdx k).map natD := by
  rw [List.eraseIdx_eq_take_drop_succ, List.eraseIdx_eq_take_drop_succ, List.map_append, List.map_take, List.map_drop]
theorem asLst_ref {S : HD} {a : Addr} {xs : List D} (h : S.hp a = some (.lst xs)) : asLst S (.ref a) = some xs := by
  show (match S.hp a with | some (.lst xs) => some xs | _ => none) = _
  rw [h]
theorem mixR_row {M : Mch} {os row : List (Nat)} {s : Nat} {r : List (Option Nat)} (h1 : r.length = M.L) (h2 : ∀ c, (r[c]?).bind id = M.nx s c) : r.map (fun x => x.map fun t => os.idxOf t) = mixR M os s := by
  unfold mixR
  apply List.ext_getElem?
  intro c
  rw [List.getElem?_map, List.getElem?_map]
  by_cases hc : c < M.L
  · rw [List.getElem?_range hc]
    show _ = some ((M.nx s c).map fun t => os.idxOf t)
    rw [← h2 c, List.getElem?_eq_getElem (show c < r.length by omega)]
    rfl
  · rw [List.getElem?_eq_none (show r.length ≤ c by omega), List.getElem?_eq_none (by rw [List.length_range]; omega)]
    rfl
def spMix : SpD := fun ds S Q => ∃ M : Mch, ds = [.deck, enc M] ∧ M.Ok ∧ S.c + 3000 ≤ 1000000000000 ∧ ∀ N : Mch, N.Ok → N.L = M.L → N.rows.length = M.rows.length → (∀ w, N.acc w = M.acc w) → Q (enc N) (S.tick 400)
theorem mix_len (ds : List D) (S : HD) (Q : QD) (h : spMix ds S Q) : ds.length = 2 := by
  obtain ⟨_, rfl, _⟩ := h
  rfl
theorem mixL_ok (ds : List D) (S : HD) (Q : QD) (h : spMix ds S Q) : rd__law_mixed spDraw (ends Q) (pad 11 ds) S := by
  obtain ⟨M, rfl, ok, hc, q⟩ := h
  have n1 := ok.n1
  have n4 := ok.n4
  have l3 := ok.l3
  have hsl : (sizeLine : Nat) = 16777216 := rfl
  unfold rd__law_mixed enc
  refine seq_step fun N1 hN1 => ?_
  walk_at "rdx"
  refine hN1 _ _ ?_
  clear hN1 N1
  refine seq_step fun N1 hN1 => ?_
  walk_at "rdx"
  rw [List.length_map]
  refine ⟨⟨by omega, by omega, by omega, by omega, by omega⟩, fun p hp => ⟨by decide, fun p2 hp2 => ⟨by decide, hN1 _ _ ?_⟩⟩⟩
  clear hN1 N1
  have np : p ≠ p2 := fun e => by rw [← e, HD.set_same] at hp2; cases hp2
  have zp2 : S.hp p2 = none := by rw [HD.set_ne (Ne.symm np)] at hp2; exact hp2
  have er : rngD 1 ((M.rows.length : Int) - 1).toNat = ((List.range (M.rows.length - 1)).map (· + 1)).map natD := by
    unfold rngD
    rw [show ((M.rows.length : Int) - 1).toNat = M.rows.length - 1 by omega, List.map_map]
    apply List.map_congr_left
    intro k _
    show D.int (1 + (k : Int)) = .int ((k + 1 : Nat) : Int)
    congr 1
    omega
  rw [er]
  refine seq_step fun N1 hN1 => ?_
  generalize hB : (sDropD _ : TSD) = B1
  walk_at "rdx"
  rw [List.length_map]
  refine ⟨⟨by omega, by omega⟩, ?_⟩
  have hperm0 : ([0] ++ (List.range (M.rows.length - 1)).map (· + 1)).Perm (List.range M.rows.length) := by
    obtain ⟨m, hm⟩ : ∃ m, M.rows.length = m + 1 := ⟨M.rows.length - 1, by omega⟩
    rw [hm, List.range_succ_eq_map]
    exact List.Perm.refl _
  refine loopD_go (fun i σ S' => ∃ (v7 : Option D) (os rs : List Nat), σ = [some .deck, some (.tup [.int (M.L : Nat), .tup (M.rows.map PM.encR), .tup (M.ends.map .bl)]), some (.int (M.L : Nat)), some (.tup (M.rows.map PM.encR)), some (.tup (M.ends.map .bl)), some (.ref p), some (.ref p2), v7, none, none, none] ∧
      S'.hp p = some (.lst (rs.map natD)) ∧ S'.hp p2 = some (.lst (os.map natD)) ∧ Up i S S' ∧ (os ++ rs).Perm (List.range M.rows.length) ∧ os[0]? = some 0 ∧ os.length = i + 1)
    ⟨_, [0], (List.range (M.rows.length - 1)).map (· + 1), rfl, by rw [HD.set_ne np, HD.set_same], HD.set_same, ((Up.refl S).set hp).set zp2, hperm0, rfl, rfl⟩ (fun i d σ S' N hi ⟨v7, os, rs, e1, e2, e3, e4, e5, e6, e7⟩ k => ⟨trivial, ?_⟩) fun σ S' ⟨v7, os, rs, e1, e2, e3, e4, e5, e6, e7⟩ => ⟨trivial, ?_⟩
  · subst e1
    obtain ⟨hil, rfl⟩ := rngD_get hi
    have hlen := e5.length_eq
    rw [List.length_append, List.length_range] at hlen
    have uc := e4.c
    walk_at "rdx"
    subst hB
    walk_at "rdx"
    simp only [e2, e3, List.length_map]
    refine ⟨⟨_, rfl⟩, ⟨_, asLst_ref e2⟩, ⟨by omega, by omega, by omega⟩, fun r h0 h2 => ?_⟩
    obtain ⟨t, rfl⟩ : ∃ t : Nat, r = (t : Nat) := ⟨r.toNat, by omega⟩
    have htl : t < rs.length := by omega
    have hy := List.getElem?_eq_getElem htl
    have hpm := perm_erase rs t htl
    generalize rs[t] = y at hy hpm
    refine ⟨t, natD y, rfl, by omega, by rw [List.getElem?_map, hy]; rfl, ?_⟩
    have e3' : ((S'.tick 1).set p (.lst ((rs.map natD).eraseIdx t))).hp p2 = some (.lst (os.map natD)) := by rw [HD.set_ne (Ne.symm np)]; exact e3
    simp only [e3', List.length_map]
    refine ⟨by omega, k _ _ ⟨_, os ++ [y], rs.eraseIdx t, rfl, ?_, ?_, ?_, ?_, ?_, ?_⟩⟩
    · rw [HD.set_ne np, HD.set_same, erase_map]
    · rw [HD.set_same, List.map_append]; rfl
    · exact ((e4.tick (k := 1)).set hp).set zp2
    · rw [List.append_assoc]
      exact (List.Perm.append_left os hpm).trans e5
    · rw [List.getElem?_append_left (by omega)]; exact e6
    · rw [List.length_append, e7]; rfl
  · subst e1
    refine hN1 _ _ ?_
    clear hN1 N1 hB
    have hrl : (rngD 0 (((M.rows.length : Nat) : Int) - 1).toNat).length = M.rows.length - 1 := by simp only [rngD, List.length_map, List.length_range]; omega
    rw [hrl] at e4 e7
    have hlen := e5.length_eq
    rw [List.length_append, List.length_range] at hlen
    have hrs : rs = [] := List.length_eq_zero_iff.mp (by omega)
    subst hrs
    rw [List.append_nil] at e5
    have hol : os.length = M.rows.length := by omega
    have hmem : ∀ t, t ∈ os ↔ t < M.rows.length := fun t => by rw [e5.mem_iff, List.mem_range]
    clear e2
    refine seq_step fun N1 hN1 => ?_
    walk_at "rdx"
    refine ⟨by decide, fun p8 hp8 => hN1 _ _ ?_⟩
    clear hN1 N1
    have n8 : p2 ≠ p8 := fun e => by rw [← e, e3] at hp8; cases hp8
    have z8 : S.hp p8 = none := Up.none e4 hp8
    have g1 : (S'.set p8 (.lst [])).hp p2 = some (.lst (os.map natD)) := by rw [HD.set_ne n8]; exact e3
    have g2 : (S'.set p8 (.lst [])).hp p8 = some (.lst []) := HD.set_same
    have g3 : Up (M.rows.length - 1) S (S'.set p8 (.lst [])) := e4.set z8
    generalize (S'.set p8 (.lst [])) = S1 at g1 g2 g3 ⊢
    clear e3 e4 hp8
    refine seq_step fun N1 hN1 => ?_
    generalize hB : (sDropD _ : TSD) = B1
    walk_at "rdx"
    simp only [g1]
    refine fun _ => loopD_go (fun i σ S2 => ∃ (v9 v10 : Option D), σ = [some .deck, some (.tup [.int (M.L : Nat), .tup (M.rows.map PM.encR), .tup (M.ends.map .bl)]), some (.int (M.L : Nat)), some (.tup (M.rows.map PM.encR)), some (.tup (M.ends.map .bl)), some (.ref p), some (.ref p2), v7, some (.ref p8), v9, v10] ∧
        S2.hp p8 = some (.lst (((os.map (mixR M os)).take i).map PM.encR)) ∧ S2.hp p2 = some (.lst (os.map natD)) ∧ Up (M.rows.length - 1) S S2)
      ⟨_, _, rfl, g2, g1, g3⟩ (fun i d σ S2 N2 hi ⟨v9, v10, f1, f2, f3, f4⟩ k2 => ⟨f3, ?_⟩) fun σ S2 ⟨v9, v10, f1, f2, f3, f4⟩ => ⟨f3, ?_⟩
    · subst f1
      rw [List.getElem?_map] at hi
      obtain ⟨s, hs, rfl⟩ := Option.map_eq_some_iff.mp hi
      have hsm := (hmem s).mp (List.mem_of_getElem? hs)
      obtain ⟨row, r1, r2, r3, r4⟩ := rowE_at ok hsm
      walk_at "rdx"
      subst hB
      generalize hT : (tIfD (tTst (tUnD rIsN (tSlot 10))) _ _ : TED) = T1
      generalize hg : (gNameD 10 : TGD) = g
      walk_at "rdx"
      simp only [f2, r3]
      refine ⟨⟨_, rfl⟩, fun hz => ⟨hz, ?_⟩⟩
      refine lc_filtF encC (fun x => encC (x.map fun t => os.idxOf t)) (fun _ => true) trivial row (fun x hx Q1 Q0 hy => ?_) ?_
      · have hy : Q1 (encC (x.map fun t => os.idxOf t)) S2 := hy
        subst hT hg
        cases x with
        | none =>
          rw [show encC none = D.non from rfl]
          walk_at "rdx"
          exact hy
        | some t =>
          have ht : t ∈ os := by
            obtain ⟨c, hc⟩ := List.mem_iff_getElem?.mp hx
            have := r4 c
            rw [hc] at this
            exact (hmem t).mpr (M.nx_lt ok this.symm)
          rw [show encC (some t) = D.int (t : Nat) from rfl]
          walk_at "rdx"
          rw [if_neg (show ¬ isN (D.int (t : Nat)) = true from Bool.false_ne_true)]
          have hix : ixF (D.int (t : Nat)) (os.map natD) = some (os.idxOf t) := ixF_nat ht
          simp only [f3, flat_nats, hix]
          exact ⟨⟨_, asLst_ref f3⟩, ⟨rfl, trivial⟩, hy⟩
      · rw [List.filter_eq_self.mpr fun _ _ => rfl]
        have em : row.map (fun x => encC (x.map fun t => os.idxOf t)) = (mixR M os s).map encC := by
          rw [← mixR_row (M := M) (os := os) (row := os) r2 r4, List.map_map]; rfl
        rw [em]
        simp only [f2]
        have hri : (os.map (mixR M os))[i]? = some (mixR M os s) := by rw [List.getElem?_map, hs]; rfl
        refine ⟨by rw [List.length_map, List.length_take, List.length_map]; omega, k2 _ _ ⟨_, _, rfl, ?_, by rw [HD.set_ne n8]; exact f3, f4.set z8⟩⟩
        rw [HD.set_same, List.take_add_one, hri, List.map_append]
        rfl
    · subst f1
      refine hN1 _ _ ?_
      clear hN1 N1 hB
      rw [List.length_map] at f2
      have htk : (os.map (mixR M os)).take os.length = os.map (mixR M os) := List.take_of_length_le (by rw [List.length_map]; exact Nat.le_refl _)
      rw [htk] at f2
      generalize hT : (tBin rIxX (tSlot 4) (tSlot 9) : TED) = T1
      generalize hg : (gNameD 9 : TGD) = g
      walk_at "rdx"
      simp only [f2, f3]
      refine fun hz => ⟨hz, lc_filtF natD (fun s => .bl (M.fin s)) (fun _ => true) f3 os (fun s hs Q1 Q0 hy => ?_) ?_⟩
      · have hy : Q1 (.bl (M.fin s)) S2 := hy
        subst hT hg
        have eh : L2.atI (M.ends.map D.bl) (s : Int) = some (.bl (M.fin s)) := end_at ok ((hmem s).mp hs)
        walk_at "rdx"
        simp only [eh]
        exact hy
      · rw [List.filter_eq_self.mpr fun _ _ => rfl]
        refine ⟨by decide, ?_⟩
        obtain ⟨o1, o2⟩ := mix_ok ok e5 e6
        have h9 := q _ o1 rfl (by show (os.map _).length = _; rw [List.length_map, hol]) o2
        have e9 : enc (mixM M os) = .tup [.int (M.L : Nat), .tup ((os.map (mixR M os)).map PM.encR), .tup (os.map fun s => D.bl (M.fin s))] := by
          unfold enc mixM
          simp only [List.map_map]
          rfl
        rw [e9] at h9
        exact (f4.mono (by omega)).fin h9
end PS
end
section
local macro_rules | `(tactic| walk_at "rdx") => `(tactic| simp only [PD.pad, PD.gt_z, PD.gt_s, PD.st_z, PD.st_s, PD.sNextD, PD.sSeqD, PD.sBreakD, PD.sContD, PD.sDropD, PD.sRetD, PD.sRetND, PD.sIfD, PD.sNeverD, PD.sAsgD, PD.sPar2, PD.sPar3, PD.gNameD, PD.gNilD, PD.gConsD, PD.gTupD, PD.gSubD, PD.tNilD, PD.tConsD, PD.tTupD, PD.tLstV, PD.tLstR, PD.tBin, PD.tTst, PD.tAndD, PD.tOrD, PD.tNotD, PD.tIfD, PD.tAndV, PD.tOrV, PD.tNotV, PD.tUnD, PD.rNeg, PD.tCallD, PD.tSlot, PD.tCD, PD.tChainD, PD.rIsN, PD.rNotN, PD.rIsiD, PD.isi_non, PD.isi_bl, PD.isi_int, PD.isi_str, PD.isi_tup, PD.isi_lst, PD.isi_dic, PD.Ty.name, PD.rCmpI, PD.fLt, PD.fLe, PD.fGt, PD.fGe, PD.rAddD, PD.rSubD, PD.rFdivD, PD.rModD, PD.rPowD, PD.rMulD, PD.rAddR, PD.rMulR, PD.asSeq, PD.asLst, PD.rLenD, PD.rTupleD, PD.rListV, PD.rListR, PD.rIntD, PD.rBoolD, PD.rAbsD, PD.rIxD, PD.oNone, PD.oSome, PD.tSlD, PD.rSlD, PD.tRevTD, PD.rEqD, PD.rNeD, PD.nrm_non, PD.nrm_bl, PD.nrm_int, PD.nrm_str, PD.nrm_tup, PD.nrm_lst, PD.nrm_dic, PD.nrm_ref, PD.iSeqD, PD.iRng1D, PD.iRng2D, PD.sForD, PD.tLcV, PD.tLcR, PD.tYesD, PD.wipeD, PD.tMethL, PD.rAppD, PD.isRefL, PD.tDicV, PD.keyOf, PD.asDic, PD.srcD, PD.iAnyD, PD.iZipD, PD.iEnumD, PD.tDcV, PD.tDicR, PD.gSubX, PD.rSetX, PD.rIxX, PD.rInD, PD.rInX, PD.rInY, PD.rSumD, PD.tRevLD, PD.tRevX, PD.rSixD, PD.rJoinD, PD.tMethS, PD.rLixD, PD.rPopD, PD.rExtD, PD.tMethA, PD.rSetD, PD.rReprD, PD.eqk_int, PD.eqd_int, PD.eqk_str, PD.eqd_str, PD.eqk_lst0, PD.eqd_lst0, PD.eqk_tup0, PD.eqd_tup0, PD.tdOf, PD.rInW, PD.rIxW, PD.rSetW, PD.gSubW, PD.rLenW, PD.rGetW, PD.rGetAt, PD.tMethW, PD.rSetdW, PD.tDispR, PD.tPairsD, PD.putAll, PD.tDisp1T, PD.gSeqD, PD.rListW, PD.tLenSetD, ↓PM.asSeq_sq, ↓PM.asDic_sq, ↓PM.srcD_sq, ↓PM.tdOf_sq, ↓PM.rIxD_sq, Option.map_some, Option.bind_some, PD.spFn, PD.spDraw, reduceIte, true_and, and_true, or_false, false_or, Bool.not_true, Bool.not_false, Bool.false_eq_true, List.length_cons, List.length_nil, List.set_cons_zero, List.set_cons_succ, PD.HD.set_same, PD.HD.tick_hp, PD.HD.tick_c, PD.HD.tick_dk, PD.HD.set_c, PD.HD.set_dk])
local macro_rules | `(tactic| simp_all only [$xs,*]) => `(tactic| simp only [PD.pad, PD.gt_z, PD.gt_s, PD.st_z, PD.st_s, PD.sNextD, PD.sSeqD, PD.sBreakD, PD.sContD, PD.sDropD, PD.sRetD, PD.sRetND, PD.sIfD, PD.sNeverD, PD.sAsgD, PD.sPar2, PD.sPar3, PD.gNameD, PD.gNilD, PD.gConsD, PD.gTupD, PD.gSubD, PD.tNilD, PD.tConsD, PD.tTupD, PD.tLstV, PD.tLstR, PD.tBin, PD.tTst, PD.tAndD, PD.tOrD, PD.tNotD, PD.tIfD, PD.tAndV, PD.tOrV, PD.tNotV, PD.tUnD, PD.rNeg, PD.tCallD, PD.tSlot, PD.tCD, PD.tChainD, PD.rIsN, PD.rNotN, PD.rIsiD, PD.isi_non, PD.isi_bl, PD.isi_int, PD.isi_str, PD.isi_tup, PD.isi_lst, PD.isi_dic, PD.Ty.name, PD.rCmpI, PD.fLt, PD.fLe, PD.fGt, PD.fGe, PD.rAddD, PD.rSubD, PD.rFdivD, PD.rModD, PD.rPowD, PD.rMulD, PD.rAddR, PD.rMulR, PD.asSeq, PD.asLst, PD.rLenD, PD.rTupleD, PD.rListV, PD.rListR, PD.rIntD, PD.rBoolD, PD.rAbsD, PD.rIxD, PD.oNone, PD.oSome, PD.tSlD, PD.rSlD, PD.tRevTD, PD.rEqD, PD.rNeD, PD.nrm_non, PD.nrm_bl, PD.nrm_int, PD.nrm_str, PD.nrm_tup, PD.nrm_lst, PD.nrm_dic, PD.nrm_ref, PD.iSeqD, PD.iRng1D, PD.iRng2D, PD.sForD, PD.tLcV, PD.tLcR, PD.tYesD, PD.wipeD, PD.tMethL, PD.rAppD, PD.isRefL, PD.tDicV, PD.keyOf, PD.asDic, PD.srcD, PD.iAnyD, PD.iZipD, PD.iEnumD, PD.tDcV, PD.tDicR, PD.gSubX, PD.rSetX, PD.rIxX, PD.rInD, PD.rInX, PD.rInY, PD.rSumD, PD.tRevLD, PD.tRevX, PD.rSixD, PD.rJoinD, PD.tMethS, PD.rLixD, PD.rPopD, PD.rExtD, PD.tMethA, PD.rSetD, PD.rReprD, PD.eqk_int, PD.eqd_int, PD.eqk_str, PD.eqd_str, PD.eqk_lst0, PD.eqd_lst0, PD.eqk_tup0, PD.eqd_tup0, PD.tdOf, PD.rInW, PD.rIxW, PD.rSetW, PD.gSubW, PD.rLenW, PD.rGetW, PD.rGetAt, PD.tMethW, PD.rSetdW, PD.tDispR, PD.tPairsD, PD.putAll, PD.tDisp1T, PD.gSeqD, PD.rListW, PD.tLenSetD, ↓PM.asSeq_sq, ↓PM.asDic_sq, ↓PM.srcD_sq, ↓PM.tdOf_sq, ↓PM.rIxD_sq, Option.map_some, Option.bind_some, PD.spFn, PD.spDraw, reduceIte, true_and, and_true, or_false, false_or, Bool.not_true, Bool.not_false, Bool.false_eq_true, List.length_cons, List.length_nil, List.set_cons_zero, List.set_cons_succ, PD.HD.set_same, PD.HD.tick_hp, PD.HD.tick_c, PD.HD.tick_dk, PD.HD.set_c, PD.HD.set_dk, $xs,*])
/-! PN8: pairs of states; smallest, size, next_of, ends_at, is_in. -/
namespace PM
open PySem PySem.Spec PyProof.Rows PD
def spSmall : SpD := fun ds S Q => ∃ M : Mch, ds = [enc M] ∧ M.Ok ∧ ∀ M' : Mch, M'.Ok → Smallest M' → M'.L = M.L → (∀ w, M'.acc w = M.acc w) → M'.rows.length ≤ M.rows.length → Q (enc M') S
theorem small_len (ds : List D) (S : HD) (Q : QD) (h : spSmall ds S Q) : ds.length = 1 := by
  obtain ⟨_, rfl, _⟩ := h
  rfl
theorem small_ok (ds : List D) (S : HD) (Q : QD) (h : spSmall ds S Q) : rd_smallest spShrunk (ends Q) (pad 1 ds) S := by
  obtain ⟨M, rfl, ok, q⟩ := h
  unfold rd_smallest enc
  simp_all only [at3_0, at3_1, at3_2]
  exact ⟨M, (true, true), rfl, ok, fun M' h1 h2 h3 h4 h5 => fin.here (q M' h1 h2 h3 h4 h5)⟩
/-- how two machines' words are put together -/
inductive How | both | either | less
def How.str : How → Str
  | .both => "both"
  | .either => "either"
  | .less => "less"
end PM
end
section
/-! PM14: small data, for repr. -/
namespace PM
open PySem PySem.Spec PyProof.Rows PD
/-- small data of some depth -/
def Sm (z h : Nat) (v : D) : Prop := okR v = true ∧ dep v ≤ h ∧ sz v ≤ z
theorem Sm.mono {z h z' h' : Nat} {v : D} (s : Sm z h v) (l : z ≤ z') (l' : h ≤ h') : Sm z' h' v := ⟨s.1, Nat.le_trans s.2.1 l', Nat.le_trans s.2.2 l⟩
/-- small lists -/
def SmL (z h : Nat) (xs : List D) : Prop := okRL xs = true ∧ depL xs ≤ h ∧ szL xs ≤ z
theorem SmL.nil : SmL 0 0 [] := ⟨rfl, Nat.le_refl _, Nat.le_refl _⟩
theorem SmL.cons {z h z' h' : Nat} {x : D} {xs : List D} (a : Sm z h x) (b : SmL z' h' xs) : SmL (z + 2 + z') (max h h') (x :: xs) :=
  ⟨by simp only [okRL, a.1, b.1, Bool.and_self], by have := a.2.1; have := b.2.1; simp only [depL]; omega, by have := a.2.2; have := b.2.2; simp only [szL]; omega⟩
theorem SmL.take {z h : Nat} {xs : List D} (a : SmL z h xs) (n : Nat) : SmL z h (xs.take n) :=
  ⟨okRL_sub a.1 fun y => List.mem_of_mem_take, Nat.le_trans (depL_sub fun y => List.mem_of_mem_take) a.2.1, Nat.le_trans (szL_take xs n) a.2.2⟩
theorem SmL.drop {z h : Nat} {xs : List D} (a : SmL z h xs) (n : Nat) : SmL z h (xs.drop n) :=
  ⟨okRL_sub a.1 fun y => List.mem_of_mem_drop, Nat.le_trans (depL_sub fun y => List.mem_of_mem_drop) a.2.1, Nat.le_trans (szL_drop xs n) a.2.2⟩
theorem szL_rev (xs : List D) : szL xs.reverse = szL xs := by
  induction xs with
  | nil => rfl
  | cons x xs ih => rw [List.reverse_cons, szL_app, ih]; simp only [szL]; omega
theorem SmL.rev {z h : Nat} {xs : List D} (a : SmL z h xs) : SmL z h xs.reverse :=
  ⟨okRL_sub a.1 fun y => List.mem_reverse.mp, Nat.le_trans (depL_sub fun y => List.mem_reverse.mp) a.2.1, by rw [szL_rev]; exact a.2.2⟩
theorem SmL.of {z h : Nat} {xs : List D} (a : ∀ x ∈ xs, Sm z h x) : SmL (xs.length * (z + 2)) h xs :=
  ⟨okRL_of fun x hx => (a x hx).1, depL_of fun x hx => (a x hx).2.1, szL_of fun x hx => (a x hx).2.2⟩
theorem SmL.mono {z h z' h' : Nat} {xs : List D} (s : SmL z h xs) (l : z ≤ z') (l' : h ≤ h') : SmL z' h' xs := ⟨s.1, Nat.le_trans s.2.1 l', Nat.le_trans s.2.2 l⟩
theorem SmL.tup {z h : Nat} {xs : List D} (a : SmL z h xs) : Sm (z + 3) (h + 1) (.tup xs) := ⟨a.1, by simp only [dep]; exact Nat.succ_le_succ a.2.1, by simp only [sz]; exact Nat.add_le_add_right a.2.2 3⟩
theorem SmL.lst {z h : Nat} {xs : List D} (a : SmL z h xs) : Sm (z + 3) (h + 1) (.lst xs) := ⟨a.1, by simp only [dep]; exact Nat.succ_le_succ a.2.1, by simp only [sz]; exact Nat.add_le_add_right a.2.2 3⟩
theorem SmL.get {z h : Nat} {xs : List D} {x : D} (a : SmL z h xs) (hx : x ∈ xs) : Sm z h x := ⟨okRL_mem a.1 hx, Nat.le_trans (depL_le hx) a.2.1, Nat.le_trans (szL_mem hx) a.2.2⟩
theorem sm_int {i : Int} (h0 : -1 ≤ i) (h1 : i ≤ 1000) : Sm 13 0 (.int i) := by
  have h2 : i.natAbs < 1024 := by omega
  have h3 : i.natAbs.log2 < 10 := by
    by_cases h : i.natAbs = 0
    · rw [h]; decide
    · exact (Nat.log2_lt h).mpr h2
  exact ⟨by simp only [okR, decide_eq_true_eq]; omega, Nat.le_refl _, by simp only [sz]; omega⟩
theorem sm_non : Sm 13 0 .non := ⟨rfl, Nat.le_refl _, by decide⟩
theorem sm_bl {b : Bool} : Sm 13 0 (.bl b) := ⟨rfl, Nat.le_refl _, (by decide : 5 ≤ 13)⟩
theorem Sm.bound {z h : Nat} {v : D} (s : Sm z h v) (l : z ≤ 16000000) (l' : h ≤ 60) : okR v = true ∧ dep v ≤ 60 ∧ sz v ≤ 16000000 := ⟨s.1, Nat.le_trans s.2.1 l', Nat.le_trans s.2.2 l⟩
theorem sm_enc {M : Mch} (ok : M.Ok) : Sm 100000 3 (enc M) := by
  have l3 := ok.l3
  have n4 := ok.n4
  have en := ok.en
  have h1 : SmL (400 * 50) 1 (M.rows.map encR) := by
    refine (SmL.of (z := 48) (h := 1) fun x hx => ?_).mono (by rw [List.length_map]; omega) (Nat.le_refl _)
    obtain ⟨r, hr, rfl⟩ := List.mem_map.mp hx
    have : SmL (r.length * 15) 0 (r.map encC) := by
      refine (SmL.of (z := 13) fun y hy => ?_).mono (by rw [List.length_map]; omega) (Nat.le_refl _)
      obtain ⟨c, hc, rfl⟩ := List.mem_map.mp hy
      cases c with
      | none => exact sm_non
      | some t =>
        have := ok.lt r hr _ hc t rfl
        exact sm_int (by omega) (by omega)
    have hw := ok.wd r hr
    exact this.tup.mono (by omega) (Nat.le_refl _)
  have h2 : SmL (400 * 15) 0 (M.ends.map D.bl) := by
    refine (SmL.of (z := 13) fun x hx => ?_).mono (by rw [List.length_map]; omega) (Nat.le_refl _)
    obtain ⟨b, hb, rfl⟩ := List.mem_map.mp hx
    exact sm_bl
  have h3 : Sm 13 0 (.int (M.L : Nat)) := sm_int (by omega) (by omega)
  exact ((SmL.cons h3 (SmL.cons h1.tup (SmL.cons h2.tup SmL.nil))).tup).mono (by decide) (by decide)
end PM
end
section
local macro_rules | `(tactic| walk_at "rdx") => `(tactic| simp only [PD.pad, PD.gt_z, PD.gt_s, PD.st_z, PD.st_s, PD.sNextD, PD.sSeqD, PD.sBreakD, PD.sContD, PD.sDropD, PD.sRetD, PD.sRetND, PD.sIfD, PD.sNeverD, PD.sAsgD, PD.sPar2, PD.sPar3, PD.gNameD, PD.gNilD, PD.gConsD, PD.gTupD, PD.gSubD, PD.tNilD, PD.tConsD, PD.tTupD, PD.tLstV, PD.tLstR, PD.tBin, PD.tTst, PD.tAndD, PD.tOrD, PD.tNotD, PD.tIfD, PD.tAndV, PD.tOrV, PD.tNotV, PD.tUnD, PD.rNeg, PD.tCallD, PD.tSlot, PD.tCD, PD.tChainD, PD.rIsN, PD.rNotN, PD.rIsiD, PD.isi_non, PD.isi_bl, PD.isi_int, PD.isi_str, PD.isi_tup, PD.isi_lst, PD.isi_dic, PD.Ty.name, PD.rCmpI, PD.fLt, PD.fLe, PD.fGt, PD.fGe, PD.rAddD, PD.rSubD, PD.rFdivD, PD.rModD, PD.rPowD, PD.rMulD, PD.rAddR, PD.rMulR, PD.rMin2, PD.rMax2, PD.tRevSD, PD.tLcItD, PD.tLcKyD, PD.rDictP, PD.tListRng, PD.rPopI, PD.rGtN, PD.sLcKyD, PD.rIxL, PD.rEqE, PD.tOrX, PD.rNeE, PD.tlOf, PD.asSeq, PD.asLst, PD.rLenD, PD.rTupleD, PD.rListV, PD.rListR, PD.rIntD, PD.rBoolD, PD.rAbsD, PD.rIxD, PD.oNone, PD.oSome, PD.tSlD, PD.rSlD, PD.tRevTD, PD.rEqD, PD.rNeD, PD.nrm_non, PD.nrm_bl, PD.nrm_int, PD.nrm_str, PD.nrm_tup, PD.nrm_lst, PD.nrm_dic, PD.nrm_ref, PD.iSeqD, PD.iRng1D, PD.iRng2D, PD.sForD, PD.tLcV, PD.tLcR, PD.tYesD, PD.wipeD, PD.tMethL, PD.rAppD, PD.isRefL, PD.tDicV, PD.keyOf, PD.asDic, PD.srcD, PD.iAnyD, PD.iZipD, PD.iEnumD, PD.tDcV, PD.tDicR, PD.gSubX, PD.rSetX, PD.rIxX, PD.rInD, PD.rInX, PD.rInY, PD.rInZ, PD.rSumD, PD.tRevLD, PD.tRevX, PD.rSixD, PD.rJoinD, PD.tMethS, PD.rLixD, PD.rPopD, PD.rExtD, PD.tMethA, PD.rSetD, PD.rReprD, PD.eqk_int, PD.eqd_int, PD.eqk_str, PD.eqd_str, PD.eqk_lst0, PD.eqd_lst0, PD.eqk_tup0, PD.eqd_tup0, PD.tdOf, PD.rInW, PD.rIxW, PD.rSetW, PD.gSubW, PD.rLenW, PD.rGetW, PD.rGetAt, PD.tMethW, PD.rSetdW, PD.tDispR, PD.tPairsD, PD.putAll, PD.tDisp1T, PD.gSeqD, PD.rListW, PD.tLenSetD, PD.tFldD, PD.fldD, PD.tMethC, PD.methD, PD.tMakeD, PD.sFldD, PD.tMethB, PD.rLjD, PD.tCallX, PD.sRetX, PD.sRaiseD, PD.sTryD, PD.hdlD, PD.noX, PD.rExtX, PD.rTupleX, PD.gUnpD, PD.tDictZ, PD.rInP, PD.rLixP, PD.tCallE, PD.tNilL, PD.tConsL, PD.tLamL, PD.tCallL, PD.tMethCL, PD.tAlt, PD.tMake0, PD.tDispV, Option.map_some, Option.bind_some, PD.spFn, PD.spDraw, reduceIte, true_and, and_true, or_false, false_or, Bool.not_true, Bool.not_false, Bool.false_eq_true, List.length_cons, List.length_nil, List.set_cons_zero, List.set_cons_succ, PD.HD.set_same, PD.HD.tick_hp, PD.HD.tick_c, PD.HD.tick_dk, PD.HD.set_c, PD.HD.set_dk])
local macro_rules | `(tactic| simp_all only [$xs,*]) => `(tactic| simp only [PD.pad, PD.gt_z, PD.gt_s, PD.st_z, PD.st_s, PD.sNextD, PD.sSeqD, PD.sBreakD, PD.sContD, PD.sDropD, PD.sRetD, PD.sRetND, PD.sIfD, PD.sNeverD, PD.sAsgD, PD.sPar2, PD.sPar3, PD.gNameD, PD.gNilD, PD.gConsD, PD.gTupD, PD.gSubD, PD.tNilD, PD.tConsD, PD.tTupD, PD.tLstV, PD.tLstR, PD.tBin, PD.tTst, PD.tAndD, PD.tOrD, PD.tNotD, PD.tIfD, PD.tAndV, PD.tOrV, PD.tNotV, PD.tUnD, PD.rNeg, PD.tCallD, PD.tSlot, PD.tCD, PD.tChainD, PD.rIsN, PD.rNotN, PD.rIsiD, PD.isi_non, PD.isi_bl, PD.isi_int, PD.isi_str, PD.isi_tup, PD.isi_lst, PD.isi_dic, PD.Ty.name, PD.rCmpI, PD.fLt, PD.fLe, PD.fGt, PD.fGe, PD.rAddD, PD.rSubD, PD.rFdivD, PD.rModD, PD.rPowD, PD.rMulD, PD.rAddR, PD.rMulR, PD.rMin2, PD.rMax2, PD.tRevSD, PD.tLcItD, PD.tLcKyD, PD.rDictP, PD.tListRng, PD.rPopI, PD.rGtN, PD.sLcKyD, PD.rIxL, PD.rEqE, PD.tOrX, PD.rNeE, PD.tlOf, PD.asSeq, PD.asLst, PD.rLenD, PD.rTupleD, PD.rListV, PD.rListR, PD.rIntD, PD.rBoolD, PD.rAbsD, PD.rIxD, PD.oNone, PD.oSome, PD.tSlD, PD.rSlD, PD.tRevTD, PD.rEqD, PD.rNeD, PD.nrm_non, PD.nrm_bl, PD.nrm_int, PD.nrm_str, PD.nrm_tup, PD.nrm_lst, PD.nrm_dic, PD.nrm_ref, PD.iSeqD, PD.iRng1D, PD.iRng2D, PD.sForD, PD.tLcV, PD.tLcR, PD.tYesD, PD.wipeD, PD.tMethL, PD.rAppD, PD.isRefL, PD.tDicV, PD.keyOf, PD.asDic, PD.srcD, PD.iAnyD, PD.iZipD, PD.iEnumD, PD.tDcV, PD.tDicR, PD.gSubX, PD.rSetX, PD.rIxX, PD.rInD, PD.rInX, PD.rInY, PD.rInZ, PD.rSumD, PD.tRevLD, PD.tRevX, PD.rSixD, PD.rJoinD, PD.tMethS, PD.rLixD, PD.rPopD, PD.rExtD, PD.tMethA, PD.rSetD, PD.rReprD, PD.eqk_int, PD.eqd_int, PD.eqk_str, PD.eqd_str, PD.eqk_lst0, PD.eqd_lst0, PD.eqk_tup0, PD.eqd_tup0, PD.tdOf, PD.rInW, PD.rIxW, PD.rSetW, PD.gSubW, PD.rLenW, PD.rGetW, PD.rGetAt, PD.tMethW, PD.rSetdW, PD.tDispR, PD.tPairsD, PD.putAll, PD.tDisp1T, PD.gSeqD, PD.rListW, PD.tLenSetD, PD.tFldD, PD.fldD, PD.tMethC, PD.methD, PD.tMakeD, PD.sFldD, PD.tMethB, PD.rLjD, PD.tCallX, PD.sRetX, PD.sRaiseD, PD.sTryD, PD.hdlD, PD.noX, PD.rExtX, PD.rTupleX, PD.gUnpD, PD.tDictZ, PD.rInP, PD.rLixP, PD.tCallE, PD.tNilL, PD.tConsL, PD.tLamL, PD.tCallL, PD.tMethCL, PD.tAlt, PD.tMake0, PD.tDispV, Option.map_some, Option.bind_some, PD.spFn, PD.spDraw, reduceIte, true_and, and_true, or_false, false_or, Bool.not_true, Bool.not_false, Bool.false_eq_true, List.length_cons, List.length_nil, List.set_cons_zero, List.set_cons_succ, PD.HD.set_same, PD.HD.tick_hp, PD.HD.tick_c, PD.HD.tick_dk, PD.HD.set_c, PD.HD.set_dk, $xs,*])
/-! PS11: rows and rings of many states. -/
namespace PS
open PySem PySem.Spec PyProof.Rows PD PM
def lgR (n : Nat) (b : Bool) : List (List (Option Nat)) := ((List.range (n - 1)).map fun k => [some (k + 1)]) ++ [[if b = true then some 0 else none]]
def lgM (n : Nat) (b : Bool) : Mch := ⟨1, lgR n b, List.replicate (n - 1) false ++ [true]⟩
theorem lg_len (n : Nat) (b : Bool) (h : 1 ≤ n) : (lgM n b).rows.length = n := by
  show (lgR n b).length = n
  unfold lgR
  rw [List.length_append, List.length_map, List.length_range]
  show n - 1 + 1 = n
  omega
theorem lg_ok {n : Nat} {b : Bool} (h : 1 ≤ n) (h2 : n ≤ 400) : (lgM n b).Ok where
  l1 := Nat.le_refl _
  l3 := (by decide : 1 ≤ 3)
  n1 := by rw [lg_len n b h]; exact h
  n4 := by rw [lg_len n b h]; exact h2
  en := by
    rw [lg_len n b h]
    show (List.replicate (n - 1) false ++ [true]).length = n
    rw [List.length_append, List.length_replicate]
    show n - 1 + 1 = n
    omega
  wd := fun r hr => by
    have hr : r ∈ lgR n b := hr
    unfold lgR at hr
    rcases List.mem_append.mp hr with h | h
    · obtain ⟨k, _, rfl⟩ := List.mem_map.mp h
      rfl
    · rw [List.mem_singleton.mp h]; rfl
  lt := fun r hr c hc t ht => by
    subst ht
    rw [lg_len n b h]
    have hr : r ∈ lgR n b := hr
    unfold lgR at hr
    rcases List.mem_append.mp hr with h | h
    · obtain ⟨k, hk, rfl⟩ := List.mem_map.mp h
      have := List.mem_range.mp hk
      have : t = k + 1 := by simpa using hc
      omega
    · rw [List.mem_singleton.mp h] at hc
      cases b with
      | true => have : t = 0 := by simpa using hc
                omega
      | false => simp at hc
theorem lg_nx {n : Nat} {b : Bool} {i : Nat} (h : i + 1 < n) : (lgM n b).nx i 0 = some (i + 1) := by
  unfold Mch.nx
  show (((lgR n b)[i]?).bind (·[0]?)).bind id = _
  unfold lgR
  rw [List.getElem?_append_left (by rw [List.length_map, List.length_range]; omega), List.getElem?_map, List.getElem?_range (by omega)]
  rfl
theorem lg_fin {n : Nat} {b : Bool} {i : Nat} (h : i < n) : (lgM n b).fin i = decide (i + 1 = n) := by
  show ((List.replicate (n - 1) false ++ [true])[i]?).getD false = _
  by_cases e : i + 1 = n
  · rw [List.getElem?_append_right (by rw [List.length_replicate]; omega), List.length_replicate, show i - (n - 1) = 0 by omega, decide_eq_true e]
    rfl
  · rw [List.getElem?_append_left (by rw [List.length_replicate]; omega), decide_eq_false e, List.getElem?_replicate, if_pos (by omega)]
    rfl
theorem lg_acc {n : Nat} {b : Bool} : ∀ (k i : Nat), i + k < n → (lgM n b).accF i (List.replicate k 0) = decide (i + k + 1 = n)
  | 0, i, h => by
    show (lgM n b).fin i = _
    rw [lg_fin (by omega)]
  | k + 1, i, h => by
    rw [List.replicate_succ, accF_nx, lg_nx (by omega)]
    show (lgM n b).accF (i + 1) (List.replicate k 0) = _
    rw [lg_acc k (i + 1) (by omega), decide_eq_decide]
    omega
theorem lg_small {n : Nat} {b : Bool} (h : 1 ≤ n) (h2 : n ≤ 400) : Smallest (lgM n b) := by
  left
  refine ⟨fun s hs => ?_, fun s t hs ht rq => ?_, fun j h0 hj => ?_⟩
  · rw [lg_len n b h] at hs
    refine ⟨List.replicate (n - 1 - s) 0, ?_⟩
    rw [lg_acc _ _ (by omega)]
    exact decide_eq_true (by omega)
  · rw [lg_len n b h] at hs ht
    rcases Nat.lt_trichotomy s t with e | e | e
    · have := rq (List.replicate (n - 1 - t) 0)
      rw [lg_acc _ _ (by omega), lg_acc _ _ (by omega), decide_eq_decide] at this
      omega
    · exact e
    · have := rq (List.replicate (n - 1 - s) 0)
      rw [lg_acc _ _ (by omega), lg_acc _ _ (by omega), decide_eq_decide] at this
      omega
  · rw [lg_len n b h] at hj
    refine ⟨j - 1, 0, by omega, ?_, fun i' c' j' hl hx => ?_⟩
    · rw [lg_nx (by omega)]
      congr 1
      omega
    · have hc := nx_c (lg_ok (b := b) h h2) hx
      have hc : c' < 1 := hc
      obtain rfl : c' = 0 := by omega
      have hi : i' + 1 < n := by omega
      rw [lg_nx hi] at hx
      cases hx
      omega
def spLong : SpD := fun ds S Q => ∃ (n : Nat) (b : Bool), ds = [.int (n : Nat), .bl b] ∧ 1 ≤ n ∧ n ≤ 300 ∧ Q (enc (lgM n b)) S
theorem long_len (ds : List D) (S : HD) (Q : QD) (h : spLong ds S Q) : ds.length = 2 := by
  obtain ⟨_, _, rfl, _⟩ := h
  rfl
theorem long_ok (ds : List D) (S : HD) (Q : QD) (h : spLong ds S Q) : rd__law_long (ends Q) (pad 4 ds) S := by
  obtain ⟨n, b, rfl, n1, n3, q⟩ := h
  have hsl : (sizeLine : Nat) = 16777216 := rfl
  unfold rd__law_long
  refine seq_step fun N1 hN1 => ?_
  generalize hT : (tTupD (tConsD (tBin rAddD (tSlot 3) _) tNilD) : TED) = T1
  generalize hg : (gNameD 3 : TGD) = g
  walk_at "rdx"
  have en : ((n : Int) - 1).toNat = n - 1 := by omega
  rw [en, rngD_nat]
  refine ⟨⟨by omega, by omega⟩, by rw [List.length_map, List.length_range]; omega, ?_⟩
  refine lc_filtF natD (fun k => PM.encR [some (k + 1)]) (fun _ => true) trivial (List.range (n - 1)) (fun k hk Q1 Q0 hy => ?_) ?_
  · have hy : Q1 (.tup [.int ((k + 1 : Nat) : Int)]) S := hy
    subst hT hg
    walk_at "rdx"
    rw [show ((k : Int) + 1) = ((k + 1 : Nat) : Int) by omega]
    exact ⟨by decide, hy⟩
  · rw [List.filter_eq_self.mpr fun _ _ => rfl]
    have e9 : enc (lgM n b) = .tup [.int 1, .tup (((List.range (n - 1)).map fun k => PM.encR [some (k + 1)]) ++ [.tup [encC (if b = true then some 0 else none)]]), .tup ((List.replicate (n - 1) (D.bl false)) ++ [.bl true])] := by
      unfold enc lgM lgR
      simp only [List.map_append, List.map_map, List.map_replicate]
      rfl
    rw [e9] at q
    have ef : (List.replicate ((n : Int) - 1).toNat [D.bl false]).flatten = List.replicate (n - 1) (D.bl false) := by
      rw [en]
      generalize n - 1 = m
      induction m with
      | zero => rfl
      | succ m ih => rw [List.replicate_succ, List.flatten_cons, ih, List.replicate_succ]; rfl
    have hl : (List.map (fun k => PM.encR [some (k + 1)]) (List.range (n - 1))).length + (0 + 1) ≤ sizeLine := by rw [List.length_map, List.length_range]; omega
    have fin' := fin.here q
    cases b with
    | true =>
      rw [if_pos rfl]
      refine ⟨by decide, by decide, hl, hN1 _ _ ?_⟩
      clear hN1 N1
      walk_at "rdx"
      rw [ef]
      exact ⟨by decide, ⟨by omega, by omega, by decide⟩, by decide, by rw [List.length_replicate]; omega, by decide, fin'⟩
    | false =>
      rw [if_neg Bool.false_ne_true]
      refine ⟨by decide, by decide, hl, hN1 _ _ ?_⟩
      clear hN1 N1
      walk_at "rdx"
      rw [ef]
      exact ⟨by decide, ⟨by omega, by omega, by decide⟩, by decide, by rw [List.length_replicate]; omega, by decide, fin'⟩
def spLR : SpD := fun ds S Q => ds = [.deck] ∧ S.c + 10000 ≤ 1000000000000 ∧ Q (.bl true) (S.tick 5000)
theorem lr_len (ds : List D) (S : HD) (Q : QD) (h : spLR ds S Q) : ds.length = 1 := by
  obtain ⟨rfl, _⟩ := h
  rfl
theorem eq_sm {M N : Mch} (m : M.Ok) (n : N.Ok) (sm : Smallest M) (sn : Smallest N) (l : N.L = M.L) (e : ∀ w, N.acc w = M.acc w) : enc N = enc M := by
  rw [smallest_eq n m sn sm l e]
theorem lr_ok (ds : List D) (S : HD) (Q : QD) (h : spLR ds S Q) : rd__law_long_right spOne spDraw spLong spSmall spDbl (ends Q) (pad 4 ds) S := by
  obtain ⟨rfl, hc, q⟩ := h
  have hsl : (sizeLine : Nat) = 16777216 := rfl
  unfold rd__law_long_right
  refine seq_step fun N1 hN1 => ?_
  walk_at "rdx"
  refine ⟨⟨by decide, by decide, by omega⟩, fun r h0 h2 => ⟨by decide, _, _, rfl, rfl, by simp, by simp, by simp only [HD.tick_c]; omega, fun o ho => hN1 _ _ ?_⟩⟩
  clear hN1 N1
  obtain ⟨n, rfl, n2, n3⟩ : ∃ n : Nat, o = .int (n : Nat) ∧ 2 ≤ n ∧ n ≤ 200 := by
    have ho : o = .int 200 ∨ o = .int 199 ∨ o = .int (2 + r) := by simpa using ho
    rcases ho with rfl | rfl | rfl
    · exact ⟨200, rfl, by decide, by decide⟩
    · exact ⟨199, rfl, by decide, by decide⟩
    · exact ⟨(2 + r).toNat, by congr 1; omega, by omega, by omega⟩
  clear ho
  refine seq_step fun N1 hN1 => ?_
  walk_at "rdx"
  refine ⟨n, false, rfl, by omega, by omega, n, true, rfl, by omega, by omega, hN1 _ _ ?_⟩
  clear hN1 N1
  have ok : ∀ b, (lgM n b).Ok := fun b => lg_ok (by omega) (by omega)
  have sm : ∀ b, Smallest (lgM n b) := fun b => lg_small (by omega) (by omega)
  have ln : ∀ b, (lgM n b).rows.length = n := fun b => lg_len n b (by omega)
  have sb2 : ∀ b, _ := fun b => (SmL.lst (SmL.cons (sm_enc (ok b)) (SmL.cons (sm_enc (ok b)) SmL.nil))).bound (by decide) (by decide)
  have sb1 : ∀ b, _ := fun b => (sm_enc (ok b)).bound (by decide) (by decide)
  refine seq_step fun N1 hN1 => ?_
  walk_at "rdx"
  refine ⟨lgM n false, rfl, ok _, by rw [ln]; omega, by simp only [HD.tick_c]; omega, fun N oN lN rN aN => ⟨N, rfl, oN, fun X oX sX lX aX _ => ⟨lgM n false, rfl, ok _, fun Y oY sY lY aY _ => ?_⟩⟩⟩
  rw [eq_sm (ok false) oX (sm _) sX (lX.trans lN) fun w => (aX w).trans (aN w), eq_sm (ok false) oY (sm _) sY lY aY]
  dsimp only
  refine ⟨by decide, sb2 false, by decide, sb2 false, ?_⟩
  rw [if_neg (by simp)]
  refine hN1 _ _ ?_
  clear hN1 N1
  walk_at "rdx"
  refine ⟨lgM n true, rfl, ok _, by rw [ln]; omega, by simp only [HD.tick_c]; omega, fun N oN lN rN aN => ⟨N, rfl, oN, fun X oX sX lX aX _ => ?_⟩⟩
  rw [eq_sm (ok true) oX (sm _) sX (lX.trans lN) fun w => (aX w).trans (aN w)]
  dsimp only
  refine ⟨sb1 true, sb1 true, ?_⟩
  rw [decide_eq_true rfl]
  exact (((((((Up.refl S).tick (k := 1)).tick (k := 1)).tick (k := 2400)).tick (k := 2400)).mono (show 0 + 1 + 1 + 2400 + 2400 ≤ 5000 by decide))).fin q
end PS
/-! L13a: the law. -/
namespace K13
open PySem PySem.Spec PyProof.Rows PD PM PS
theorem len_law (ds : List D) (S : HD) (Q : QD) (h : spLaw ds S Q) : ds.length = 1 := by
  obtain ⟨_, rfl, _⟩ := h
  rfl
def spMach8 : SpD := fun ds S Q => ∃ (L : Nat) (m : Int), ds = [.deck, .int (L : Nat), .int m] ∧ 1 ≤ L ∧ L ≤ 3 ∧ 1 ≤ m ∧ m ≤ 8 ∧ S.c + 1000 ≤ 1000000000000 ∧ ∀ M : Mch, M.Ok → M.L = L → (M.rows.length : Int) ≤ m → Q (PM.enc M) (S.tick 1000)
theorem mach8_len (ds : List D) (S : HD) (Q : QD) (h : spMach8 ds S Q) : ds.length = 3 := by
  obtain ⟨_, _, rfl, _⟩ := h
  rfl
theorem mach8_ok (ds : List D) (S : HD) (Q : QD) (h : spMach8 ds S Q) : PM.rd__law_machine spDraw spOne (ends Q) (pad 12 ds) S := by
  obtain ⟨L, m, rfl, l1, l3, m1, m2, hc, q⟩ := h
  refine machD_ok _ _ _ ⟨L, m, rfl, by omega, by omega, m1, m2, hc, fun M hM => ?_⟩
  obtain ⟨A, rfl, ok, hL, hn⟩ := mach_conv l1 l3 (by omega) hM
  exact q A ok hL hn
/-- the same words -/
structure Same (M K : Mch) : Prop where
  ok : K.Ok
  L : K.L = M.L
  acc : ∀ w, K.acc w = M.acc w
def Mc : Mch := ⟨2, [[some 1, some 1], [some 0, some 1]], [false, false]⟩
theorem mc_ok : Mc.Ok := ⟨by decide, by decide, by decide, by decide, by decide, by decide, by decide⟩
theorem mc_acc (w : List Nat) : Mc.acc w = false := by
  have hf : ∀ s, Mc.fin s = false := fun s => by
    match s with
    | 0 => rfl
    | 1 => rfl
    | n + 2 => rfl
  unfold Mch.acc
  cases Mc.run (some 0) w with
  | none => rfl
  | some s => exact hf s
theorem hq_law {w : World} (ds : List D) (S : HD) (Q : QD) (h : spLaw ds S Q) : rd_law spDeck spLR spMach8 spDraw (spLeastL w) spDbl spMore spMix spSmall (ends Q) (pad 9 ds) S := by
  obtain ⟨ns, rfl, hl, hh1, hh2, hh3, q⟩ := h
  have hsl : (sizeLine : Nat) = 16777216 := rfl
  unfold rd_law
  refine seq_step fun N1 hN1 => ?_
  walk_at "rdx"
  refine ⟨⟨ns, rfl⟩, hh3, fun dk => hN1 _ _ ?_⟩
  clear hN1 N1
  refine seq_step fun N1 hN1 => ?_
  walk_at "rdx"
  refine ⟨rfl, by show 0 + 10000 ≤ 1000000000000; decide, ?_⟩
  simp only [Bool.not_true, Bool.false_eq_true, if_false]
  refine hN1 _ _ ?_
  clear hN1 N1
  refine seq_step fun N1 hN1 => ?_
  generalize hB : (sSeqD (sAsgD (tCallD spMach8 _) (gNameD 3)) _ : TSD) = B1
  walk_at "rdx"
  refine ⟨by decide, loopD_go (fun i σ S' => ∃ (v2 v3 v4 v5 v6 v7 : Option D), σ = [some (.lst (ns.map D.int)), some .deck, v2, v3, v4, v5, v6, v7, none] ∧ S'.c ≤ 5000 + 10000 * i)
    ⟨_, _, _, _, _, _, rfl, by show 0 + 5000 ≤ _; omega⟩
    (fun i d σ S' N hi hin k => ⟨trivial, ?_⟩) fun σ S' hend => ⟨trivial, ?_⟩⟩
  · clear hN1
    obtain ⟨v2, v3, v4, v5, v6, v7, e1, ec⟩ := hin
    subst e1
    obtain ⟨hi1, rfl⟩ := rngD_get hi
    have hi14 : i < 8 := hi1
    rw [Int.zero_add]
    walk_at "rdx"
    subst hB
    refine seq_step fun N1 hN1 => ?_
    walk_at "rdx"
    refine ⟨⟨by decide, by decide, by omega⟩, fun r h0 h3 => ?_⟩
    obtain ⟨L, hL, l1, l3⟩ : ∃ L : Nat, 1 + r = (L : Nat) ∧ 1 ≤ L ∧ L ≤ 3 := ⟨(1 + r).toNat, by omega, by omega, by omega⟩
    rw [hL]
    refine ⟨L, 8, rfl, l1, l3, by decide, by decide, by simp only [HD.tick_c]; omega, fun M okM hML hM8 => hN1 _ _ ?_⟩
    clear hN1 N1
    have hc4 : ((S'.tick 1).tick 1000).c ≤ 5000 + 10000 * i + 1001 := by simp only [HD.tick_c]; omega
    generalize ((S'.tick 1).tick 1000) = S5 at hc4 ⊢
    have eM : enc M = .tup [natD M.L, rowsE M, endsE M] := rfl
    have a0 : L2.atI [natD M.L, rowsE M, endsE M] 0 = some (natD M.L) := rfl
    have a1 : L2.atI [natD M.L, rowsE M, endsE M] 1 = some (rowsE M) := rfl
    have a2 : L2.atI [natD M.L, rowsE M, endsE M] 2 = some (endsE M) := rfl
    refine seq_step fun N2 hN2 => ?_
    rw [eM]
    walk_at "rdx"
    simp only [a0, a1, a2]
    refine ⟨M, rfl, okM, fun D0 okD smD LD aD => hN2 _ _ ?_⟩
    clear hN2 N2
    rw [← eM]
    refine seq_step fun N2 hN2 => ?_
    walk_at "rdx"
    refine ⟨M, rfl, okM, by omega, by omega, fun K1 o1 x1 r1 y1 => ⟨M, rfl, okM, by omega, by simp only [HD.tick_c]; omega, fun K2 o2 x2 r2 y2 => ⟨M, rfl, okM, by simp only [HD.tick_c]; omega, fun K3 o3 x3 r3 y3 => ?_⟩⟩⟩
    have s1 : Same M K1 := ⟨o1, x1, y1⟩
    have s2 : Same M K2 := ⟨o2, x2, y2⟩
    have s3 : Same M K3 := ⟨o3, x3, y3⟩
    refine ⟨by decide, fun p hp => hN2 _ _ ?_⟩
    clear hN2 N2
    have hc6 : ((((S5.tick 2400).tick 1300).tick 400).set p (.lst [enc K1, enc K2, enc K3])).c ≤ 5000 + 10000 * i + 5101 := by show S5.c + 2400 + 1300 + 400 ≤ _; omega
    have hp6 : ((((S5.tick 2400).tick 1300).tick 400).set p (.lst [enc K1, enc K2, enc K3])).hp p = some (.lst [enc K1, enc K2, enc K3]) := HD.set_same
    generalize ((((S5.tick 2400).tick 1300).tick 400).set p (.lst [enc K1, enc K2, enc K3])) = S6 at hc6 hp6 ⊢
    clear hp hc4
    refine seq_step fun N2 hN2 => ?_
    walk_at "rdx"
    simp only [hp6]
    refine ⟨⟨_, rfl⟩, M, rfl, okM, by omega, by omega, fun K4 o4 x4 r4 y4 => ⟨K4, rfl, o4, by omega, by simp only [HD.tick_c]; omega, fun K5 o5 x5 r5 y5 => ⟨K5, rfl, o5, by simp only [HD.tick_c]; omega, fun K6 o6 x6 r6 y6 => ?_⟩⟩⟩
    have s6 : Same M K6 := ⟨o6, x6.trans (x5.trans x4), fun v => (y6 v).trans ((y5 v).trans (y4 v))⟩
    have hp7 : (((S6.tick 2400).tick 1300).tick 400).hp p = some (.lst [enc K1, enc K2, enc K3]) := hp6
    have hc7 : (((S6.tick 2400).tick 1300).tick 400).c ≤ 5000 + 10000 * i + 9201 := by show S6.c + 2400 + 1300 + 400 ≤ _; omega
    dsimp only
    simp only [hp7]
    refine ⟨(by show 3 < 16000000; decide), hN2 _ _ ?_⟩
    clear hN2 N2
    have hp8 : ((((S6.tick 2400).tick 1300).tick 400).set p (.lst ([enc K1, enc K2, enc K3] ++ [enc K6]))).hp p = some (.lst [enc K1, enc K2, enc K3, enc K6]) := HD.set_same
    have hc8 : ((((S6.tick 2400).tick 1300).tick 400).set p (.lst ([enc K1, enc K2, enc K3] ++ [enc K6]))).c ≤ 5000 + 10000 * i + 9201 := hc7
    generalize ((((S6.tick 2400).tick 1300).tick 400).set p (.lst ([enc K1, enc K2, enc K3] ++ [enc K6]))) = S7 at hp8 hc8 ⊢
    clear hp6 hp7 hc6 hc7
    generalize hB : (sSeqD (sAsgD (tCallD rReprD _) (gNameD 7)) _ : TSD) = B1
    walk_at "rdx"
    simp only [hp8]
    have ee : [enc M, enc D0] ++ [enc K1, enc K2, enc K3, enc K6] = [M, D0, K1, K2, K3, K6].map enc := rfl
    have all : ∀ K ∈ [M, D0, K1, K2, K3, K6], Same M K := fun K hK => by
      have : K = M ∨ K = D0 ∨ K = K1 ∨ K = K2 ∨ K = K3 ∨ K = K6 := by simpa using hK
      rcases this with rfl | rfl | rfl | rfl | rfl | rfl
      · exact ⟨okM, rfl, fun _ => rfl⟩
      · exact ⟨okD, LD, aD⟩
      · exact s1
      · exact s2
      · exact s3
      · exact s6
    rw [ee]
    refine ⟨by decide, by rw [hsl]; show 2 + 4 ≤ 16777216; decide, fun _ => ?_⟩
    refine loopD_go (fun j σ S8 => (∃ v6 v7, σ = [some (.lst (ns.map D.int)), some .deck, some (.int (i : Nat)), some (enc M), some (enc D0), some (.ref p), v6, v7, none]) ∧ S8.c ≤ 5000 + 10000 * i + 9201)
      ⟨⟨_, _, rfl⟩, hc8⟩ (fun j d σ S8 N3 hj ⟨⟨w6, w7, e1⟩, e2⟩ kk => ⟨trivial, ?_⟩) fun σ S8 ⟨⟨w6, w7, e1⟩, e2⟩ => ⟨trivial, ?_⟩
    · subst e1
      rw [List.getElem?_map] at hj
      obtain ⟨K, hK, rfl⟩ := Option.map_eq_some_iff.mp hj
      have sK := all K (List.mem_of_getElem? hK)
      have sbK := (sm_enc sK.ok).bound (by decide) (by decide)
      have sbD := (SmL.lst (SmL.cons (sm_enc okD) (SmL.cons (sm_enc okD) SmL.nil))).bound (by decide) (by decide)
      have small : ∀ X : Mch, X.Ok → Smallest X → X.L = K.L → (∀ v, X.acc v = K.acc v) → enc X = enc D0 := fun X oX sX lX aX => eq_sm okD oX smD sX ((lX.trans sK.L).trans LD.symm) fun v => ((aX v).trans (sK.acc v)).trans (aD v).symm
      walk_at "rdx"
      subst hB
      refine seq_step fun N4 hN4 => ?_
      walk_at "rdx"
      refine ⟨sbK, hN4 _ _ ?_⟩
      clear hN4 N4
      walk_at "rdx"
      refine ⟨K, rfl, sK.ok, fun X oX sX lX aX _ => ⟨K, rfl, sK.ok, fun Y oY sY lY aY _ => ?_⟩⟩
      rw [small X oX sX lX aX, small Y oY sY lY aY]
      dsimp only
      refine ⟨by decide, sbD, by decide, sbD, ?_⟩
      rw [if_neg (by simp)]
      refine ⟨sbK, ?_⟩
      rw [if_neg (by simp)]
      exact kk _ _ ⟨⟨_, _, rfl⟩, e2⟩
    · subst e1
      exact k _ _ ⟨_, _, _, _, _, _, rfl, by omega⟩
  · clear hB
    obtain ⟨v2, v3, v4, v5, v6, v7, e1, ec⟩ := hend
    subst e1
    refine hN1 _ _ ?_
    clear hN1 N1
    refine seq_step fun N2 hN2 => ?_
    walk_at "rdx"
    refine ⟨by decide, by decide, by decide, by decide, hN2 _ _ ?_⟩
    clear hN2 N2
    have tok : (triv 2).Ok := triv_ok (by decide) (by decide)
    have tsm : Smallest (triv 2) := .inr ⟨rfl, fun v => triv_acc v⟩
    have et : D.tup [D.int 2, .tup [.tup [.non, .non]], .tup [.bl false]] = enc (triv 2) := rfl
    have eMc : D.tup [D.int 2, .tup [.tup [.int 1, .int 1], .tup [.int 0, .int 1]], .tup [.bl false, .bl false]] = enc Mc := rfl
    rw [et]
    walk_at "rdx"
    rw [eMc]
    have z1 : ∀ S6 : HD, eqk (nrm S6 (enc (triv 2))) (nrm S6 (enc (triv 2))) = true := fun S6 => by
      rw [show nrm S6 (enc (triv 2)) = enc (triv 2) from rfl]
      decide +kernel
    have z2 : ∀ S6 : HD, eqd (nrm S6 (enc (triv 2))) (nrm S6 (enc (triv 2))) = true := fun S6 => by
      rw [show nrm S6 (enc (triv 2)) = enc (triv 2) from rfl]
      decide +kernel
    refine ⟨by decide, by decide, by decide, by decide, by decide, Mc, rfl, mc_ok, fun X oX sX lX aX _ => ?_⟩
    rw [eq_sm tok oX tsm sX lX fun v => by rw [aX, mc_acc, triv_acc]]
    dsimp only
    rw [z1, z2]
    refine ⟨rfl, ?_⟩
    dsimp only
    refine ⟨triv 2, rfl, tok, fun Y oY sY lY aY _ => ?_⟩
    rw [eq_sm tok oY tsm sY lY aY]
    dsimp only
    rw [z1, z2]
    exact ⟨rfl, fin.here (q _)⟩
end K13
end
section
/-! L13: all of it. -/
namespace K13
open PySem PySem.Spec PyProof.Rows PD PM PS
theorem one_ok (ds : List D) (S : HD) (Q : QD) (h : spOne ds S Q) : rd__law_one spDraw (ends Q) (pad 2 ds) S := oneOk ds S Q h fun _ _ q => fin.here q
theorem all_ok {l : PySem.W.OpenLaw} {w : World} {K : PySem.W.Frag} {h : Heap} {mg : Str → Option Value} {fa : Addr} (X : K.In h) (G : h.Ns mainGlobals mg) (hfa : mg "law" = some (.ref fa)) (T : Txt K mg) (D0 : DefOf K mg "met_from" s_met_from) (D1 : DefOf K mg "living" s_living) (D2 : DefOf K mg "parted" s_parted) (D3 : DefOf K mg "shrunk" s_shrunk) (D4 : DefOf K mg "smallest" s_smallest) (D5 : DefOf K mg "_law_deck" s__law_deck) (D6 : DefOf K mg "_law_draw" s__law_draw) (D7 : DefOf K mg "_law_one" s__law_one) (D8 : DefOf K mg "_law_machine" s__law_machine) (D9 : DefOf K mg "_law_met" s__law_met) (D10 : DefOf K mg "_law_open" s__law_open) (D11 : DefOf K mg "_law_least" s__law_least) (D12 : DefOf K mg "_law_are_apart" s__law_are_apart) (D13 : DefOf K mg "_law_doubled" s__law_doubled) (D14 : DefOf K mg "_law_more" s__law_more) (D15 : DefOf K mg "_law_mixed" s__law_mixed) (D16 : DefOf K mg "_law_long" s__law_long) (D17 : DefOf K mg "_law_long_right" s__law_long_right) (D18 : DefOf K mg "law" s_law) :
    ∃ fd : FuncData, (∀ (s : Shared) (v : Value), BindsTo s fd ⟨[v], []⟩ [("_law_script", v)]) ∧ ∀ base : Heap, K.In base → base.Ns mainGlobals mg → SysB base → FnD l.prog w K mg base 5 fa fd ["_law_script"] spLaw := by
  obtain ⟨f, fd, F, hm⟩ := D18.ex
  have e := hfa.symm.trans hm
  cases e
  refine ⟨fd, ?_, fun base _ _ hB => ?_⟩
  · obtain ⟨oc, od, kV, dc, pm, an, cd, ct, osl, rfl, _, _⟩ := F.ex
    exact fun s v => .of_eq rfl
  have h__law_deck := mk__law_deck (P := l.prog) (w := w) D5 T hB (k := 0) deckOk
  have h__law_draw := mk__law_draw (P := l.prog) (w := w) D6 T hB (k := 0) drawOk
  have h__law_one := mk__law_one (P := l.prog) (w := w) D7 T hB h__law_draw spOne_len one_ok
  have h__law_long := mk__law_long (P := l.prog) (w := w) D16 T hB (k := 0) PS.long_len PS.long_ok
  have h_living := mk_living (P := l.prog) (w := w) D1 T hB (k := 0) PM.liv_len PM.liv_ok
  have h_parted := mk_parted (P := l.prog) (w := w) D2 T hB (k := 0) PM.parted_len (PM.parted_ok w)
  have h_met_from := mk_met_from (P := l.prog) (w := w) D0 T hB (k := 0) PM.met_len PM.met_ok
  have h_shrunk := mk_shrunk (P := l.prog) (w := w) D3 T hB h_living h_parted h_met_from PM.shrunk_len PM.shrunk_ok
  have h_smallest := mk_smallest (P := l.prog) (w := w) D4 T hB h_shrunk PM.small_len PM.small_ok
  have h__law_doubled := mk__law_doubled (P := l.prog) (w := w) D13 T hB h__law_draw PS.dbl_len PS.dblL_ok
  have h__law_long_right := mk__law_long_right (P := l.prog) (w := w) D17 T hB (h__law_one.mono (by decide : 2 ≤ 3)) (h__law_draw.mono (by decide : 1 ≤ 3)) (h__law_long.mono (by decide : 1 ≤ 3)) h_smallest (h__law_doubled.mono (by decide : 2 ≤ 3)) PS.lr_len PS.lr_ok
  have h__law_machine := mk__law_machine (P := l.prog) (w := w) D8 T hB (h__law_draw.mono (by decide : 1 ≤ 2)) h__law_one mach8_len mach8_ok
  have h__law_open := mk__law_open (P := l.prog) (w := w) D10 T hB (k := 0) PS.openL_len PS.openL_ok
  have h__law_met := mk__law_met (P := l.prog) (w := w) D9 T hB (k := 0) PS.metL_len PS.metL_ok
  have h__law_are_apart := mk__law_are_apart (P := l.prog) (w := w) D12 T hB (k := 0) PS.apt_len PS.apt_ok
  have h__law_least := mk__law_least (P := l.prog) (w := w) D11 T hB h__law_open h__law_met h__law_are_apart PS.leastL_len PS.leastL_ok
  have h__law_more := mk__law_more (P := l.prog) (w := w) D14 T hB h__law_one (h__law_draw.mono (by decide : 1 ≤ 2)) PS.more_len PS.more_ok
  have h__law_mixed := mk__law_mixed (P := l.prog) (w := w) D15 T hB h__law_draw PS.mix_len PS.mixL_ok
  exact FnD.of F sc_law _ len_law (fun cdv A outer s H hr => dv_law T hB hr (h__law_deck.mono (by decide : 1 ≤ 4)) h__law_long_right (h__law_machine.mono (by decide : 3 ≤ 4)) (h__law_draw.mono (by decide : 1 ≤ 4)) (h__law_least.mono (by decide : 2 ≤ 4)) (h__law_doubled.mono (by decide : 2 ≤ 4)) (h__law_more.mono (by decide : 3 ≤ 4)) (h__law_mixed.mono (by decide : 2 ≤ 4)) (h_smallest.mono (by decide : 3 ≤ 4))) hq_law
end K13
end
section
namespace K13
open PySem PySem.Spec PyProof.Rows L2 PD
theorem txt_mk {K : PySem.W.Frag} {h : Heap} {mg : Str → Option Value} (X : K.In h) (G : h.Ns mainGlobals mg) {t0 : Tok} (z0 : PySem.W.nsIn K mainGlobals "len" = some none) (z1 : PySem.W.nsIn K mainGlobals "enumerate" = some none) (z2 : PySem.W.nsIn K mainGlobals "list" = some none) (z3 : PySem.W.nsIn K mainGlobals "int" = some none) (z4 : PySem.W.nsIn K mainGlobals "set" = some none) (z5 : PySem.W.nsIn K mainGlobals "tuple" = some none) (z6 : PySem.W.nsIn K mainGlobals "bool" = some none) (z7 : PySem.W.nsIn K mainGlobals "abs" = some none) (z8 : PySem.W.nsIn K mainGlobals "range" = some none) (z9 : PySem.W.nsIn K mainGlobals "dict" = some none) (z10 : PySem.W.nsIn K mainGlobals "zip" = some none) (z11 : PySem.W.nsIn K mainGlobals "repr" = some none) (y0 : PySem.W.nsIn K mainGlobals "MAX_ROWS" = some (some (.int (400) t0))) : Txt K mg :=
  ⟨PySem.W.mg_none_of X G z0, PySem.W.mg_none_of X G z1, PySem.W.mg_none_of X G z2, PySem.W.mg_none_of X G z3, PySem.W.mg_none_of X G z4, PySem.W.mg_none_of X G z5, PySem.W.mg_none_of X G z6, PySem.W.mg_none_of X G z7, PySem.W.mg_none_of X G z8, PySem.W.mg_none_of X G z9, PySem.W.mg_none_of X G z10, PySem.W.mg_none_of X G z11, ⟨_, PySem.W.mg_of X G y0⟩⟩
theorem room : RoomG 5 callerA := ⟨⟨rfl, by decide, by decide⟩, rfl⟩
end K13
open PySem PySem.W PyProof.Rows in
set_option maxRecDepth 100000 in
set_option maxHeartbeats 0 in
theorem PySem.Challenge.cw_sortedshelves_k13_smallest_machines_holds : PySem.Challenge.rw_sortedshelves_k13_smallest_machines.Holds := by
  w_on; o_law; k_head; (case hw => w_witness2)
  k_fill
  refine PD.walk_D (l := PySem.Challenge.rw_sortedshelves_k13_smallest_machines) (x := "_law_script") rfl rfl K13.room ?imp (fun w h Y => PySem.W.kIn_of Y) ?F
  case imp => decide +kernel
  case F =>
    intro w mg fa h KX G hmg
    refine' K13.all_ok KX G hmg (K13.txt_mk KX G ?z0 ?z1 ?z2 ?z3 ?z4 ?z5 ?z6 ?z7 ?z8 ?z9 ?z10 ?z11 ?y0) (PD.defOf_mk (x := "met_from") (st := K13.s_met_from) KX G ?a0 ?l0 ?c0 ?k0) (PD.defOf_mk (x := "living") (st := K13.s_living) KX G ?a1 ?l1 ?c1 ?k1) (PD.defOf_mk (x := "parted") (st := K13.s_parted) KX G ?a2 ?l2 ?c2 ?k2) (PD.defOf_mk (x := "shrunk") (st := K13.s_shrunk) KX G ?a3 ?l3 ?c3 ?k3) (PD.defOf_mk (x := "smallest") (st := K13.s_smallest) KX G ?a4 ?l4 ?c4 ?k4) (PD.defOf_mk (x := "_law_deck") (st := K13.s__law_deck) KX G ?a5 ?l5 ?c5 ?k5) (PD.defOf_mk (x := "_law_draw") (st := K13.s__law_draw) KX G ?a6 ?l6 ?c6 ?k6) (PD.defOf_mk (x := "_law_one") (st := K13.s__law_one) KX G ?a7 ?l7 ?c7 ?k7) (PD.defOf_mk (x := "_law_machine") (st := K13.s__law_machine) KX G ?a8 ?l8 ?c8 ?k8) (PD.defOf_mk (x := "_law_met") (st := K13.s__law_met) KX G ?a9 ?l9 ?c9 ?k9) (PD.defOf_mk (x := "_law_open") (st := K13.s__law_open) KX G ?a10 ?l10 ?c10 ?k10) (PD.defOf_mk (x := "_law_least") (st := K13.s__law_least) KX G ?a11 ?l11 ?c11 ?k11) (PD.defOf_mk (x := "_law_are_apart") (st := K13.s__law_are_apart) KX G ?a12 ?l12 ?c12 ?k12) (PD.defOf_mk (x := "_law_doubled") (st := K13.s__law_doubled) KX G ?a13 ?l13 ?c13 ?k13) (PD.defOf_mk (x := "_law_more") (st := K13.s__law_more) KX G ?a14 ?l14 ?c14 ?k14) (PD.defOf_mk (x := "_law_mixed") (st := K13.s__law_mixed) KX G ?a15 ?l15 ?c15 ?k15) (PD.defOf_mk (x := "_law_long") (st := K13.s__law_long) KX G ?a16 ?l16 ?c16 ?k16) (PD.defOf_mk (x := "_law_long_right") (st := K13.s__law_long_right) KX G ?a17 ?l17 ?c17 ?k17) (PD.defOf_mk (x := "law") (st := K13.s_law) KX G ?a18 ?l18 ?c18 ?k18)
    (case z0 => k_is)
    (case z1 => k_is)
    (case z2 => k_is)
    (case z3 => k_is)
    (case z4 => k_is)
    (case z5 => k_is)
    (case z6 => k_is)
    (case z7 => k_is)
    (case z8 => k_is)
    (case z9 => k_is)
    (case z10 => k_is)
    (case z11 => k_is)
    (case y0 => k_is)
    (case a0 => k_is)
    (case l0 => k_is)
    (case c0 => k_is)
    (case k0 => k_is)
    (case a1 => k_is)
    (case l1 => k_is)
    (case c1 => k_is)
    (case k1 => k_is)
    (case a2 => k_is)
    (case l2 => k_is)
    (case c2 => k_is)
    (case k2 => k_is)
    (case a3 => k_is)
    (case l3 => k_is)
    (case c3 => k_is)
    (case k3 => k_is)
    (case a4 => k_is)
    (case l4 => k_is)
    (case c4 => k_is)
    (case k4 => k_is)
    (case a5 => k_is)
    (case l5 => k_is)
    (case c5 => k_is)
    (case k5 => k_is)
    (case a6 => k_is)
    (case l6 => k_is)
    (case c6 => k_is)
    (case k6 => k_is)
    (case a7 => k_is)
    (case l7 => k_is)
    (case c7 => k_is)
    (case k7 => k_is)
    (case a8 => k_is)
    (case l8 => k_is)
    (case c8 => k_is)
    (case k8 => k_is)
    (case a9 => k_is)
    (case l9 => k_is)
    (case c9 => k_is)
    (case k9 => k_is)
    (case a10 => k_is)
    (case l10 => k_is)
    (case c10 => k_is)
    (case k10 => k_is)
    (case a11 => k_is)
    (case l11 => k_is)
    (case c11 => k_is)
    (case k11 => k_is)
    (case a12 => k_is)
    (case l12 => k_is)
    (case c12 => k_is)
    (case k12 => k_is)
    (case a13 => k_is)
    (case l13 => k_is)
    (case c13 => k_is)
    (case k13 => k_is)
    (case a14 => k_is)
    (case l14 => k_is)
    (case c14 => k_is)
    (case k14 => k_is)
    (case a15 => k_is)
    (case l15 => k_is)
    (case c15 => k_is)
    (case k15 => k_is)
    (case a16 => k_is)
    (case l16 => k_is)
    (case c16 => k_is)
    (case k16 => k_is)
    (case a17 => k_is)
    (case l17 => k_is)
    (case c17 => k_is)
    (case k17 => k_is)
    (case a18 => k_is)
    (case l18 => k_is)
    (case c18 => k_is)
    (case k18 => k_is)
end
