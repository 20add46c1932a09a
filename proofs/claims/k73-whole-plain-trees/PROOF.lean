import PyProof.Rows.All
import PySem.Str
import Wide.All
import OpenK.AllK
import Wide.FinOn
import HandS.ForMost
import HandS.Walk
import HandS.Deep
import HandS.Exc
import HandS.ExcOwn
import HandS.TryOnly
import HandS.WordsExc
import HandS.ExcCtx
import HandS.HotCalls
import HandS.ExcIs
import HandS.TupAny
import HandS.Sort
import HandS.SortRule
import HandS.IsInst
import HandS.NoneIn
import HandS.Rev
import HandS.StrMore
import HandS.More
import KE.KDictKeyed
import HandS.Conv
import PySem.Challenge.RW_rulewright_k73_whole_plain_trees
import KE.KRevSl
import PyProof.ListStr
import HandS.Text
import PyProof.StrLawsIn
import KE.DataMinMax
import HandS.SortKw
set_option Elab.async false
set_option linter.all false
set_option maxRecDepth 100000
set_option maxHeartbeats 4000000
/-! RwM: the program's functions as plain Lean functions -/
namespace Rw
open PySem (Str)

/-! ### lists, dicts as lists of pairs -/
section
variable {κ α : Type} [DecidableEq κ]
def dget (kvs : List (κ × α)) (k : κ) : Option α := (kvs.find? fun kv => decide (kv.1 = k)).map (·.2)
def dhas (kvs : List (κ × α)) (k : κ) : Bool := kvs.any fun kv => decide (kv.1 = k)
def dput (kvs : List (κ × α)) (k : κ) (v : α) : List (κ × α) :=
  if dhas kvs k = true then kvs.map (fun kv => if kv.1 = k then (kv.1, v) else kv) else kvs ++ [(k, v)]
end
def enumI {α : Type} (xs : List α) : List (Int × α) := xs.zipIdx.map fun p => ((p.2 : Int), p.1)
def upTo (n : Int) : List Int := (List.range n.toNat).map Int.ofNat
def span (i j : Int) : List Int := (List.range (j - i).toNat).map fun (k : Nat) => i + (k : Int)
def chars (x : Str) : List Str := x.cps.toList.map fun c => ⟨#[c]⟩
/-- xs[i], i within -/
def gi {α : Type} [Inhabited α] (xs : List α) (i : Int) : α := xs.getD i.toNat default

/-! ### grammars -/
abbrev Rule := Str × List Str
abbrev Gram := List Rule
inductive Kd where
  | noTurn | tooMany | noTree
  deriving DecidableEq
def alphaL : List Nat := List.range' 97 26
def capsL : List Nat := List.range' 65 26
def figsL : List Nat := List.range' 48 10
def isLetter (s : Str) : Bool := match s.cps.toList with
  | [c] => decide (c ∈ alphaL)
  | _ => false
def isName (s : Str) : Bool := match s.cps.toList with
  | [] => false
  | c :: r => decide (r.length ≤ 7) && decide (c ∈ capsL) && r.all fun d => decide (d ∈ capsL) || decide (d ∈ figsL)
structure WF (g : Gram) : Prop where
  pos : 1 ≤ g.length
  le : g.length ≤ 40
  nd : g.Nodup
  name : ∀ r ∈ g, isName r.1 = true
  six : ∀ r ∈ g, r.2.length ≤ 6
  part : ∀ r ∈ g, ∀ p ∈ r.2, isLetter p = true ∨ (isName p = true ∧ p ∈ g.map (·.1))

def namesStep (acc : List Str) (r : Rule) : List Str := if r.1 ∈ acc then acc else acc ++ [r.1]
def namesBy (g : Gram) : List Str := g.foldl namesStep []
def numbersBy (g : Gram) (n : Str) : List Int := ((enumI g).filter fun p => decide (p.2.1 = n)).map (·.1)

/-! ### names that are found in turns -/
def growStep (ok : List Str → Rule → Bool) (ks : List Str) (r : Rule) : List Str := if !decide (r.1 ∈ ks) && ok ks r then ks ++ [r.1] else ks
def growTurn (ok : List Str → Rule → Bool) (g : Gram) (ks : List Str) : List Str := g.foldl (growStep ok) ks
def growN (ok : List Str → Rule → Bool) (g : Gram) : Nat → List Str → List Str
  | 0, ks => ks
  | n + 1, ks => if (growTurn ok g ks).length = ks.length then growTurn ok g ks else growN ok g n (growTurn ok g ks)
def grow (ok : List Str → Rule → Bool) (g : Gram) : List Str := growN ok g (g.length + 1) []
def okMake (ks : List Str) (r : Rule) : Bool := r.2.all fun p => isLetter p || decide (p ∈ ks)
def okFull (ks : List Str) (r : Rule) : Bool := r.2.any fun p => isLetter p || decide (p ∈ ks)
def makesBy (g : Gram) : List Str := (namesBy g).filter fun n => decide (n ∈ grow okMake g)
def allMake (g : Gram) : Bool := g.all fun r => decide (r.1 ∈ makesBy g)
def fullNames (g : Gram) : List (Str × Bool) := (grow okFull g).map fun k => (k, true)
inductive Reach (rules : Gram) (n : Str) : Str → Prop where
  | self : Reach rules n n
  | step {m p : Str} {ps : List Str} : Reach rules n m → (m, ps) ∈ rules → p ∈ ps → isLetter p = false → Reach rules n p

/-! ### trees -/
inductive Tr where
  | leaf (s : Str)
  | node (n : Int) (ts : List Tr)
instance : Inhabited Tr := ⟨.leaf ⟨#[]⟩⟩
mutual
def fitsB (g : Gram) (part : Str) : Tr → Bool
  | .leaf s => decide (s = part) && isLetter part
  | .node n ts => decide (0 ≤ n) && decide (n < g.length) && decide ((gi g n).1 = part) && fitsL g (gi g n).2 ts
def fitsL (g : Gram) : List Str → List Tr → Bool
  | p :: ps, t :: ts => fitsB g p t && fitsL g ps ts
  | [], [] => true
  | [], _ :: _ => false
  | _ :: _, [] => false
end
mutual
def count : Tr → Int
  | .leaf _ => 0
  | .node _ ts => 1 + countL ts
def countL : List Tr → Int
  | [] => 0
  | t :: ts => count t + countL ts
end
mutual
def depth : Tr → Nat
  | .leaf _ => 0
  | .node _ ts => 1 + depthL ts
def depthL : List Tr → Nat
  | [] => 0
  | t :: ts => max (depth t) (depthL ts)
end
mutual
def lets : Tr → List Nat
  | .leaf s => s.cps.toList
  | .node _ ts => letsL ts
def letsL : List Tr → List Nat
  | [] => []
  | t :: ts => lets t ++ letsL ts
end
mutual
def renum (ns : List Int) : Tr → Tr
  | .leaf s => .leaf s
  | .node n ts => .node (gi ns n) (renumL ns ts)
def renumL (ns : List Int) : List Tr → List Tr
  | [] => []
  | t :: ts => renum ns t :: renumL ns ts
end
def isSmall (t : Tr) : Bool := decide (count t ≤ 200) && decide (depth t ≤ 40)
def isTreeOf (g : Gram) (part : Str) (t : Tr) : Bool := fitsB g part t && isSmall t
def isTree (g : Gram) (t : Tr) : Bool := isTreeOf g (gi g 0).1 t
def within (t : Tr) : Except Kd Tr := if isSmall t then .ok t else .error .tooMany

/-! ### dropping -/
def firstAhead {α : Type} (first : Str) (l : List (Str × α)) : List (Str × α) := l.filter (fun e => decide (e.1 = first)) ++ l.filter (fun e => !decide (e.1 = first))
def useful (g : Gram) : List Int := ((enumI g).filter fun p => p.2.2.all fun q => isLetter q || decide (q ∈ makesBy g)).map (·.1)
open Classical in
noncomputable def keptNumbers (g : Gram) : List Int := (useful g).filter fun i => decide (Reach ((useful g).map (gi g)) (gi g 0).1 (gi g i).1)
noncomputable def dropBook (g : Gram) : List Int := (firstAhead (gi g 0).1 ((keptNumbers g).map fun i => ((gi g i).1, i))).map (·.2)
noncomputable def dropped (g : Gram) : Except Kd (Gram × List Int) :=
  if decide ((gi g 0).1 ∈ makesBy g) = true then .ok ((dropBook g).map (gi g), dropBook g) else .error .noTurn

/-! ### emptying -/
abbrev Place := Int ⊕ Tr
abbrev Entry := Int × List Place
def etStep (found : List (Str × Tr)) (nr : Int × Rule) : List (Str × Tr) :=
  if !dhas found nr.2.1 && nr.2.2.all (fun p => dhas found p) then dput found nr.2.1 (.node nr.1 (nr.2.2.map fun p => (dget found p).getD default)) else found
def etTurn (g : Gram) (found : List (Str × Tr)) : List (Str × Tr) := (enumI g).foldl etStep found
def etN (g : Gram) : Nat → List (Str × Tr) → List (Str × Tr)
  | 0, f => f
  | n + 1, f => if (etTurn g f).length = f.length then etTurn g f else etN g n (etTurn g f)
def emptyTrees (g : Gram) : List (Str × Tr) := etN g (g.length + 1) []
def wayStep (full : List (Str × Bool)) (hollow : List (Str × Tr)) (part : Str) (way : List Bool) : List (List Bool) :=
  (if isLetter part || dhas full part then [way ++ [true]] else []) ++ (if dhas hollow part then [way ++ [false]] else [])
def ways (parts : List Str) (full : List (Str × Bool)) (hollow : List (Str × Tr)) : List (List Bool) :=
  parts.foldl (fun ws part => ws.flatMap (wayStep full hollow part)) [[]]
def places (hollow : List (Str × Tr)) : List Str → List Bool → Int → List Place
  | p :: ps, w :: ws, place => if w then .inl place :: places hollow ps ws (place + 1) else .inr ((dget hollow p).getD default) :: places hollow ps ws place
  | _, _, _ => []
def keptParts (ps : List Str) (ws : List Bool) : List Str := ((ps.zip ws).filter (·.2)).map (·.1)
def emptyWay (hollow : List (Str × Tr)) (nr : Int × Rule) (found : List (Rule × Entry)) (way : List Bool) : List (Rule × Entry) :=
  if decide (keptParts nr.2.2 way ≠ []) && decide (keptParts nr.2.2 way ≠ [nr.2.1]) && !dhas found (nr.2.1, keptParts nr.2.2 way) then
    dput found (nr.2.1, keptParts nr.2.2 way) (nr.1, places hollow nr.2.2 way 0) else found
def emptyFound (g : Gram) (full : List (Str × Bool)) (hollow : List (Str × Tr)) : List (Rule × Entry) :=
  (enumI g).foldl (fun found nr => (ways nr.2.2 full hollow).foldl (emptyWay hollow nr) found) []
def tellRules {β : Type} [Inhabited β] (first : Str) (found : List (Rule × β)) : Except Kd (Gram × List β) :=
  if (firstAhead first (found.map (·.1))).length ≤ 40 then .ok (firstAhead first (found.map (·.1)), (firstAhead first (found.map (·.1))).map fun r => (dget found r).getD default) else .error .tooMany
def emptied (g : Gram) : Except Kd (Gram × List Entry) :=
  if allMake g && dhas (fullNames g) (gi g 0).1 then tellRules (gi g 0).1 (emptyFound g (fullNames g) (emptyTrees g)) else .error .noTurn
mutual
def leadE (book : List Entry) : Tr → Tr
  | .leaf s => .leaf s
  | .node n ts => .node (gi book n).1 ((gi book n).2.map fun pl => match pl with
    | .inl k => gi (leadEL book ts) k
    | .inr t => t)
def leadEL (book : List Entry) : List Tr → List Tr
  | [] => []
  | t :: ts => leadE book t :: leadEL book ts
end

/-! ### lone rules -/
def isLone (r : Rule) : Bool := decide (r.2.length = 1) && !isLetter (gi r.2 0)
abbrev Chains := List (Str × List Int)
def chStep (g : Gram) (here : Str) (st : Chains × List Str) (number : Int) : Chains × List Str :=
  if isLone (gi g number) && !dhas st.1 (gi (gi g number).2 0) then (dput st.1 (gi (gi g number).2 0) ((dget st.1 here).getD [] ++ [number]), st.2 ++ [gi (gi g number).2 0]) else st
def chLoop (g : Gram) : Nat → Chains × List Str → Nat → Chains
  | 0, st, _ => st.1
  | n + 1, st, k => match st.2[k]? with
    | none => st.1
    | some here => chLoop g n ((numbersBy g here).foldl (chStep g here) st) (k + 1)
def chainsFrom (g : Gram) (name : Str) : Chains := chLoop g (g.length + 2) ([(name, [])], [name]) 0
def strNum (g : Gram) (name : Str) (chain : List Int) (found : List (Rule × List Int)) (number : Int) : List (Rule × List Int) :=
  if !isLone (name, (gi g number).2) && !dhas found (name, (gi g number).2) then dput found (name, (gi g number).2) (chain ++ [number]) else found
def strName (g : Gram) (found : List (Rule × List Int)) (name : Str) : List (Rule × List Int) :=
  ((chainsFrom g name).map (·.1)).foldl (fun found here => (numbersBy g here).foldl (strNum g name ((dget (chainsFrom g name) here).getD [])) found) found
def strFound (g : Gram) : List (Rule × List Int) := (namesBy g).foldl (strName g) []
def straightened (g : Gram) : Except Kd (Gram × List (List Int)) :=
  if allMake g then tellRules (gi g 0).1 (strFound g) else .error .noTurn
mutual
def leadS (book : List (List Int)) : Tr → Tr
  | .leaf s => .leaf s
  | .node n ts => (gi book n).dropLast.foldr (fun k t => .node k [t]) (.node (gi (gi book n).reverse 0) (leadSL book ts))
def leadSL (book : List (List Int)) : List Tr → List Tr
  | [] => []
  | t :: ts => leadS book t :: leadSL book ts
end

/-! ### pairs -/
def pName (i : Int) : Str := Str.ofString "P" ++ (Str.ofString (toString i))
def newNames (g : Gram) : List Str := ((span 1 400).map pName).filter fun n => !decide (n ∈ namesBy g)
abbrev PairSt := Gram × List (Int × Int) × List Str
def pairRule (number : Int) : List Str → Str → Int → PairSt → PairSt
  | a :: b :: c :: r, name, place, st => pairRule number (b :: c :: r) (gi st.2.2 0) (place + 1) (st.1 ++ [(name, [a, gi st.2.2 0])], st.2.1 ++ [(number, place)], st.2.2.drop 1)
  | rest, name, place, st => (st.1 ++ [(name, rest)], st.2.1 ++ [(number, place)], st.2.2)
def pairAll (g : Gram) : PairSt := (enumI g).foldl (fun st nr => pairRule nr.1 nr.2.2 nr.2.1 0 st) ([], [], newNames g)
def paired (g : Gram) : Except Kd (Gram × List (Int × Int)) :=
  if (pairAll g).1.length ≤ 40 then .ok ((pairAll g).1, (pairAll g).2.1) else .error .tooMany
/-- the trees that a row of paired rules holds: m of them -/
def unpair : Nat → List Tr → List Tr
  | 0, ts => ts
  | m + 1, ts => if ts.length < m + 1 then (match ts with
    | a :: .node _ us :: _ => a :: unpair m us
    | ts => ts) else ts
theorem unpair_size : ∀ (m : Nat) (ts : List Tr), ∀ t ∈ unpair m ts, sizeOf t < 1 + sizeOf ts
  | 0, ts, t, h => by
    have := List.sizeOf_lt_of_mem (show t ∈ ts from h)
    omega
  | m + 1, ts, t, h => by
    unfold unpair at h
    split at h
    · split at h
      · rcases List.mem_cons.mp h with e | e
        · subst e; simp; omega
        · have := unpair_size m _ t e
          simp; omega
      · have := List.sizeOf_lt_of_mem h
        omega
    · have := List.sizeOf_lt_of_mem h
      omega
def leadP (g : Gram) (book : List (Int × Int)) : Tr → Tr
  | .leaf s => .leaf s
  | .node n ts => .node (gi book n).1 ((unpair (gi g (gi book n).1).2.length ts).attach.map fun t => leadP g book t.1)
termination_by t => sizeOf t
decreasing_by
  have := unpair_size _ _ _ t.2
  simp; omega

/-! ### the plain grammar -/
structure Books where
  b0 : List Int
  b1 : List Entry
  b2 : List (List Int)
  b3 : List Int
  b4 : List (Int × Int)
noncomputable def plain (g : Gram) : Except Kd (Gram × Books) := do
  let (fewer, b0) ← dropped g
  let (full, b1) ← emptied fewer
  let (straight, b2) ← straightened full
  let (few, b3) ← dropped straight
  let (twos, b4) ← paired few
  .ok (twos, ⟨b0, b1, b2, b3, b4⟩)
noncomputable def straightOf (g : Gram) : Gram := match dropped g with
  | .ok (fewer, _) => (match emptied fewer with
    | .ok (full, _) => (match straightened full with
      | .ok (straight, _) => straight
      | .error _ => [])
    | .error _ => [])
  | .error _ => []
def leadAll (straight : Gram) (bs : Books) (t : Tr) : Tr :=
  renum bs.b0 (leadE bs.b1 (leadS bs.b2 (renum bs.b3 (leadP (bs.b3.map (gi straight)) bs.b4 t))))
noncomputable def ledPlain (g : Gram) (t : Tr) : Except Kd Tr := do
  let (turned, bs) ← plain g
  if isTree turned t then within (leadAll (straightOf g) bs t) else .error .noTree
end Rw

/-! RwA: a layer over the hand layer: heaps with a ghost part, representations, abstract slots, judgements on abstract slots -/
namespace Rw
open PySem L2

/-! ### steps: G is the part of the heap that never changes any more, H the whole -/
structure Stp (G H G' H' : Hp) : Prop where
  gg : Same G G'
  gh : Same G' H'
  hh : Same H H'
  nw : ∀ a o, G' a = some o → G a = some o ∨ H a = none
theorem Stp.refl {G H : Hp} (h : Same G H) : Stp G H G H := ⟨Same.refl _, h, Same.refl _, fun _ _ e => .inl e⟩
theorem Stp.trans {G H G1 H1 G2 H2 : Hp} (a : Stp G H G1 H1) (b : Stp G1 H1 G2 H2) : Stp G H G2 H2 :=
  ⟨a.gg.trans b.gg, b.gh, a.hh.trans b.hh, fun x o e => by
    rcases b.nw x o e with h | h
    · exact a.nw x o h
    · exact .inr (a.hh.free h)⟩
theorem same_upd {H : Hp} {p : Addr} (o : HO) (h : H p = none) : Same H (upd H p o) := fun b u e => by
  rw [upd_ne (ne_of_none e h)]; exact e
theorem same_updL {G H : Hp} {p : Addr} (o : HO) (s : Same G H) (h : G p = none) : Same G (upd H p o) := fun b u e => by
  rw [upd_ne (ne_of_none e h)]; exact s b u e
theorem same_upd2 {G H : Hp} {p : Addr} (o : HO) (s : Same G H) : Same (upd G p o) (upd H p o) := fun b u e => by
  by_cases hb : b = p
  · subst hb; rw [upd_same] at e ⊢; exact e
  · rw [upd_ne hb] at e ⊢; exact s b u e
/-- a new object that never changes -/
theorem Stp.new {G H : Hp} (s : Same G H) {p : Addr} (h : H p = none) (o : HO) : Stp G H (upd G p o) (upd H p o) :=
  ⟨same_upd o (s.free h), same_upd2 o s, same_upd o h, fun a u e => by
    by_cases ha : a = p
    · subst ha; exact .inr h
    · rw [upd_ne ha] at e; exact .inl e⟩
/-- a new object that may change -/
theorem Stp.fresh {G H : Hp} (s : Same G H) {p : Addr} (h : H p = none) (o : HO) : Stp G H G (upd H p o) :=
  ⟨Same.refl _, same_updL o s (s.free h), same_upd o h, fun a u e => .inl e⟩

/-! ### representations -/
structure Rp (α : Type) where
  rel : PySem.W.Frag → Hp → V → α → Prop
  mono : ∀ {K : PySem.W.Frag} {G G' : Hp} {v : V} {a : α}, Same G G' → rel K G v a → rel K G' v a

theorem same_rd {H H' : Hp} {a : Addr} {u : HO} (e : Same H H') (h : Rd H a u) : Rd H' a u := by
  rcases h with h | ⟨o, h⟩
  · exact .inl (e _ _ h)
  · exact .inr ⟨o, e _ _ h⟩
theorem same_t {K : PySem.W.Frag} {H H' : Hp} {a : Addr} {xs : List V} (e : Same H H') (h : SqT K H a xs) : SqT K H' a xs := by
  rcases h with h | h
  · exact .inl (same_rd e h)
  · exact .inr h

section
variable {α β : Type} {F F' : α → β → Prop}
theorem pget : ∀ {l : List α} {r : List β} {i : Nat} {b : β}, Paired F l r → r[i]? = some b → ∃ a, l[i]? = some a ∧ F a b
  | _, _, _, _, .nil, e => by simp at e
  | _, _, 0, _, .cons h _, e => by simp at e; subst e; exact ⟨_, rfl, h⟩
  | _, _, i + 1, b, .cons _ t, e => by
    obtain ⟨a, h1, h2⟩ := pget (i := i) (b := b) t (by simpa using e)
    exact ⟨a, by simpa using h1, h2⟩
theorem pgetL : ∀ {l : List α} {r : List β} {i : Nat} {a : α}, Paired F l r → l[i]? = some a → ∃ b, r[i]? = some b ∧ F a b
  | _, _, _, _, .nil, e => by simp at e
  | _, _, 0, _, .cons h _, e => by simp at e; subst e; exact ⟨_, rfl, h⟩
  | _, _, i + 1, b, .cons _ t, e => by
    obtain ⟨a, h1, h2⟩ := pgetL (i := i) (a := b) t (by simpa using e)
    exact ⟨a, by simpa using h1, h2⟩
theorem pmap_eq {f : β → α} : ∀ {l : List α} {r : List β}, Paired (fun a b => a = f b) l r → l = r.map f
  | _, _, .nil => rfl
  | _, _, .cons h t => by rw [List.map_cons, h, pmap_eq t]
theorem pmap_of {f : β → α} : ∀ (r : List β), Paired (fun a b => a = f b) (r.map f) r
  | [] => .nil
  | _ :: r => .cons rfl (pmap_of r)
theorem pappend : ∀ {l l' : List α} {r r' : List β}, Paired F l r → Paired F l' r' → Paired F (l ++ l') (r ++ r')
  | _, _, _, _, .nil, s => s
  | _, _, _, _, .cons h t, s => .cons h (pappend t s)
theorem ptake : ∀ {l : List α} {r : List β} (n : Nat), Paired F l r → Paired F (l.take n) (r.take n)
  | _, _, 0, _ => .nil
  | _, _, _ + 1, .nil => .nil
  | _, _, n + 1, .cons h t => .cons h (ptake n t)
theorem pdrop : ∀ {l : List α} {r : List β} (n : Nat), Paired F l r → Paired F (l.drop n) (r.drop n)
  | _, _, 0, r => r
  | _, _, _ + 1, .nil => .nil
  | _, _, n + 1, .cons _ t => pdrop n t
theorem prev {l : List α} {r : List β} (h : Paired F l r) : Paired F l.reverse r.reverse := by
  induction h with
  | nil => exact .nil
  | cons h _ ih => rw [List.reverse_cons, List.reverse_cons]; exact ih.snoc h
theorem perase : ∀ {l : List α} {r : List β} (n : Nat), Paired F l r → Paired F (l.eraseIdx n) (r.eraseIdx n)
  | _, _, _, .nil => .nil
  | _, _, 0, .cons _ t => t
  | _, _, n + 1, .cons h t => .cons h (perase n t)
theorem pmono (hm : ∀ a b, F a b → F' a b) : ∀ {l : List α} {r : List β}, Paired F l r → Paired F' l r
  | _, _, .nil => .nil
  | _, _, .cons h t => .cons (hm _ _ h) (pmono hm t)
end

def strMax : Nat := 1000000
/-- texts that the work meets: not too long, of signs -/
def SOk (a : Str) : Prop := a.length ≤ strMax ∧ PyData.strOk a = true
instance (a : Str) : Decidable (SOk a) := inferInstanceAs (Decidable (_ ∧ _))
namespace Rp
def int : Rp Int := ⟨fun _ _ v a => v = .int a, fun _ h => h⟩
def bl : Rp Bool := ⟨fun _ _ v a => v = .bl a, fun _ h => h⟩
def non : Rp Unit := ⟨fun _ _ v _ => v = .non, fun _ h => h⟩
def str : Rp Str := ⟨fun _ _ v a => v = .str a ∧ SOk a, fun _ h => h⟩
def lst {α : Type} (A : Rp α) : Rp (List α) := ⟨fun K G v xs => ∃ p vs, v = .ref p ∧ G p = some (.lst vs) ∧ Paired (A.rel K G) vs xs ∧ xs.length ≤ sizeLine,
  fun s ⟨p, vs, e, h, q, z⟩ => ⟨p, vs, e, s _ _ h, pmono (fun _ _ => A.mono s) q, z⟩⟩
/-- a list that is perhaps not tracked (the script) -/
def scr {α : Type} (A : Rp α) : Rp (List α) := ⟨fun K G v xs => ∃ p vs, v = .ref p ∧ SqL K G p vs ∧ Paired (A.rel K G) vs xs ∧ xs.length ≤ sizeLine,
  fun s ⟨p, vs, e, h, q, z⟩ => ⟨p, vs, e, s.seq h, pmono (fun _ _ => A.mono s) q, z⟩⟩
def tup {α : Type} (A : Rp α) : Rp (List α) := ⟨fun K G v xs => ∃ p vs, v = .ref p ∧ SqT K G p vs ∧ Paired (A.rel K G) vs xs ∧ xs.length ≤ sizeLine,
  fun s ⟨p, vs, e, h, q, z⟩ => ⟨p, vs, e, same_t s h, pmono (fun _ _ => A.mono s) q, z⟩⟩
def pair {α β : Type} (A : Rp α) (B : Rp β) : Rp (α × β) := ⟨fun K G v x => ∃ p u w, v = .ref p ∧ SqT K G p [u, w] ∧ A.rel K G u x.1 ∧ B.rel K G w x.2,
  fun s ⟨p, u, w, e, h, q1, q2⟩ => ⟨p, u, w, e, same_t s h, A.mono s q1, B.mono s q2⟩⟩
def dct {α : Type} (A : Rp α) : Rp (List (Str × α)) := ⟨fun K G v xs => ∃ p ds, v = .ref p ∧ Rd G p (.dK ds) ∧ Paired (fun d x => d.1 = Sum.inr x.1 ∧ A.rel K G d.2 x.2 ∧ SOk x.1) ds xs ∧ xs.length ≤ sizeLine,
  fun s ⟨p, ds, e, h, q, z⟩ => ⟨p, ds, e, same_rd s h, pmono (fun _ _ ⟨h1, h2, h3⟩ => ⟨h1, A.mono s h2, h3⟩) q, z⟩⟩
/-- either this or that -/
def sum {α β : Type} (A : Rp α) (B : Rp β) : Rp (α ⊕ β) := ⟨fun K G v x => match x with
  | .inl a => A.rel K G v a
  | .inr b => B.rel K G v b, fun {K G G' v x} s h => by cases x with
  | inl a => exact A.mono s h
  | inr b => exact B.mono s h⟩
end Rp

/-! ### relations that a value stands in, kept by steps -/
structure Rl where
  r : PySem.W.Frag → Hp → Hp → V → Prop
  mono : ∀ {K : PySem.W.Frag} {G H G' H' : Hp} {v : V}, Stp G H G' H' → r K G H v → r K G' H' v
def Rp.at {α : Type} (A : Rp α) (a : α) : Rl := ⟨fun K G _ v => A.rel K G v a, fun s h => A.mono s.gg h⟩
/-- a list that may be read -/
def rLq {α : Type} (A : Rp α) (xs : List α) : Rl := ⟨fun K G H v => ∃ p vs, v = .ref p ∧ SqL K H p vs ∧ Paired (A.rel K G) vs xs ∧ xs.length ≤ sizeLine,
  fun s ⟨p, vs, e, h, q, z⟩ => ⟨p, vs, e, s.hh.seq h, pmono (fun _ _ => A.mono s.gg) q, z⟩⟩
/-- a tracked list that may be read -/
def rL {α : Type} (A : Rp α) (xs : List α) : Rl := ⟨fun K G H v => ∃ p vs, v = .ref p ∧ H p = some (.lst vs) ∧ Paired (A.rel K G) vs xs ∧ xs.length ≤ sizeLine,
  fun s ⟨p, vs, e, h, q, z⟩ => ⟨p, vs, e, s.hh _ _ h, pmono (fun _ _ => A.mono s.gg) q, z⟩⟩
/-- a dict that may be read -/
def rD {α : Type} (A : Rp α) (xs : List (Str × α)) : Rl := ⟨fun K G H v => ∃ p ds, v = .ref p ∧ Rd H p (.dK ds) ∧ Paired (fun d x => d.1 = Sum.inr x.1 ∧ A.rel K G d.2 x.2 ∧ SOk x.1) ds xs ∧ xs.length ≤ sizeLine,
  fun s ⟨p, ds, e, h, q, z⟩ => ⟨p, ds, e, same_rd s.hh h, pmono (fun _ _ ⟨h1, h2, h3⟩ => ⟨h1, A.mono s.gg h2, h3⟩) q, z⟩⟩

/-! ### contents of objects that a slot owns -/
structure Oc where
  rel : PySem.W.Frag → Hp → Addr → HO → Prop
  mono : ∀ {K : PySem.W.Frag} {G G' : Hp} {p : Addr} {o : HO}, Same G G' → rel K G p o → rel K G' p o
def Oc.lst {α : Type} (A : Rp α) (xs : List α) : Oc := ⟨fun K G _ o => ∃ vs, o = .lst vs ∧ Paired (A.rel K G) vs xs ∧ xs.length ≤ sizeLine,
  fun s ⟨vs, e, q, z⟩ => ⟨vs, e, pmono (fun _ _ => A.mono s) q, z⟩⟩
def Oc.dct {α : Type} (A : Rp α) (xs : List (Str × α)) : Oc := ⟨fun K G _ o => ∃ ds, o = .dK ds ∧ Paired (fun d x => d.1 = Sum.inr x.1 ∧ A.rel K G d.2 x.2 ∧ SOk x.1) ds xs ∧ xs.length ≤ sizeLine,
  fun s ⟨ds, e, q, z⟩ => ⟨ds, e, pmono (fun _ _ ⟨h1, h2, h3⟩ => ⟨h1, A.mono s h2, h3⟩) q, z⟩⟩

/-- contents of an object and of others that hang on it, all a slot's own -/
structure Fm where
  rel : PySem.W.Frag → Hp → Hp → Addr → List Addr → Prop
  mono : ∀ {K : PySem.W.Frag} {G G' H H' : Hp} {p : Addr} {qs : List Addr}, Same G G' → (∀ q ∈ p :: qs, H' q = H q) → rel K G H p qs → rel K G' H' p qs
/-- what is known of a slot -/
inductive Sl : Type 1 where
  | un
  | dat {α : Type} (A : Rp α) (a : α)
  | own (O : Oc)
  | fam (F : Fm)

structure Bs where
  G : Hp
  H : Hp

inductive Slots (K : PySem.W.Frag) (B : Bs) (G H : Hp) : List Sl → L2.St → List Addr → Prop where
  | nil : Slots K B G H [] [] []
  | un {es : List Sl} {σ : L2.St} {ps : List Addr} {o : Option V} : Slots K B G H es σ ps → Slots K B G H (.un :: es) (o :: σ) ps
  | dat {es : List Sl} {σ : L2.St} {ps : List Addr} {α : Type} {A : Rp α} {a : α} {v : V} : A.rel K G v a → Slots K B G H es σ ps → Slots K B G H (.dat A a :: es) (some v :: σ) ps
  | own {es : List Sl} {σ : L2.St} {ps : List Addr} {O : Oc} {p : Addr} {o : HO} : H p = some o → O.rel K G p o → G p = none → B.H p = none → Slots K B G H es σ ps → Slots K B G H (.own O :: es) (some (.ref p) :: σ) (p :: ps)
  | fam {es : List Sl} {σ : L2.St} {ps : List Addr} {F : Fm} {p : Addr} {qs : List Addr} : F.rel K G H p qs → (∀ q ∈ p :: qs, G q = none ∧ B.H q = none ∧ ∃ o, H q = some o) → Slots K B G H es σ ps → Slots K B G H (.fam F :: es) (some (.ref p) :: σ) ((p :: qs) ++ ps)

structure EnvA (K : PySem.W.Frag) (B : Bs) (es : List Sl) (σ : L2.St) (G H : Hp) : Prop where
  st : Stp B.G B.H G H
  sl : ∃ ps, Slots K B G H es σ ps ∧ ps.Nodup

section
variable {K : PySem.W.Frag} {B : Bs} {es : List Sl} {σ : L2.St} {G H G' H' : Hp} {ps : List Addr}
theorem Slots.free (h : Slots K B G H es σ ps) : ∀ p ∈ ps, G p = none ∧ B.H p = none ∧ ∃ o, H p = some o := by
  induction h with
  | nil => simp
  | un _ ih => exact ih
  | dat _ _ ih => exact ih
  | own h1 _ h3 h4 _ ih =>
    intro p hp
    rcases List.mem_cons.mp hp with e | e
    · subst e; exact ⟨h3, h4, _, h1⟩
    · exact ih p e
  | fam _ h2 _ ih =>
    intro p hp
    rcases List.mem_append.mp hp with e | e
    · exact h2 p e
    · exact ih p e
theorem Slots.to (h : Slots K B G H es σ ps) (gg : Same G G') (hf : ∀ p ∈ ps, G' p = none ∧ H' p = H p) : Slots K B G' H' es σ ps := by
  induction h with
  | nil => exact .nil
  | un _ ih => exact .un (ih hf)
  | @dat _ _ _ _ A _ _ h _ ih => exact .dat (A.mono gg h) (ih hf)
  | @own _ _ _ O p _ h1 h2 h3 h4 _ ih =>
    obtain ⟨a, b⟩ := hf p (by simp)
    exact .own (b.trans h1) (O.mono gg h2) a h4 (ih fun q hq => hf q (by simp [hq]))
  | @fam _ _ _ F p qs h1 h2 _ ih =>
    exact .fam (F.mono gg (fun q hq => (hf q (List.mem_append_left _ hq)).2) h1) (fun q hq => by
      obtain ⟨a, b⟩ := hf q (List.mem_append_left _ hq)
      obtain ⟨_, c, o, d⟩ := h2 q hq
      exact ⟨a, c, o, b.trans d⟩) (ih fun q hq => hf q (List.mem_append_right _ hq))
theorem Slots.step (h : Slots K B G H es σ ps) (s : Stp G H G' H') : Slots K B G' H' es σ ps :=
  h.to s.gg fun p hp => by
    obtain ⟨a, b, o, c⟩ := h.free p hp
    refine ⟨?_, by rw [c]; exact s.hh _ _ c⟩
    cases q : G' p with
    | none => rfl
    | some u =>
      rcases s.nw p u q with z | z
      · rw [a] at z; cases z
      · rw [c] at z; cases z
theorem EnvA.step (E : EnvA K B es σ G H) (s : Stp G H G' H') : EnvA K B es σ G' H' :=
  ⟨E.st.trans s, let ⟨ps, h, n⟩ := E.sl; ⟨ps, h.step s, n⟩⟩
theorem EnvA.same (E : EnvA K B es σ G H) : Same G H := E.st.gh
theorem Slots.len (h : Slots K B G H es σ ps) : es.length = σ.length := by
  induction h <;> simp_all
theorem Slots.get (h : Slots K B G H es σ ps) {i : Nat} {α : Type} {A : Rp α} {a : α} (e : es[i]? = some (.dat A a)) : ∃ v, σ[i]? = some (some v) ∧ A.rel K G v a := by
  induction h generalizing i with
  | nil => simp at e
  | un _ ih =>
    cases i with
    | zero => simp at e
    | succ i => simpa using ih (i := i) (by simpa using e)
  | dat h _ ih =>
    cases i with
    | zero =>
      simp only [List.getElem?_cons_zero, Option.some.injEq, Sl.dat.injEq] at e
      obtain ⟨rfl, e2, e3⟩ := e
      cases e2; cases e3
      exact ⟨_, rfl, h⟩
    | succ i => simpa using ih (i := i) (by simpa using e)
  | own _ _ _ _ _ ih =>
    cases i with
    | zero => simp at e
    | succ i => simpa using ih (i := i) (by simpa using e)
  | fam _ _ _ ih =>
    cases i with
    | zero => simp at e
    | succ i => simpa using ih (i := i) (by simpa using e)
theorem Slots.getO (h : Slots K B G H es σ ps) {i : Nat} {O : Oc} (e : es[i]? = some (.own O)) : ∃ p o, σ[i]? = some (some (.ref p)) ∧ H p = some o ∧ O.rel K G p o ∧ G p = none ∧ B.H p = none ∧ p ∈ ps := by
  induction h generalizing i with
  | nil => simp at e
  | un _ ih =>
    cases i with
    | zero => simp at e
    | succ i => simpa using ih (i := i) (by simpa using e)
  | dat h _ ih =>
    cases i with
    | zero => simp at e
    | succ i => simpa using ih (i := i) (by simpa using e)
  | own h1 h2 h3 h4 _ ih =>
    cases i with
    | zero =>
      simp only [List.getElem?_cons_zero, Option.some.injEq, Sl.own.injEq] at e
      subst e
      exact ⟨_, _, rfl, h1, h2, h3, h4, by simp⟩
    | succ i =>
      obtain ⟨p, o, q1, q2, q3, q4, q5, q6⟩ := ih (i := i) (by simpa using e)
      exact ⟨p, o, by simpa using q1, q2, q3, q4, q5, by simp [q6]⟩
  | fam _ _ _ ih =>
    cases i with
    | zero => simp at e
    | succ i =>
      obtain ⟨p, o, q1, q2, q3, q4, q5, q6⟩ := ih (i := i) (by simpa using e)
      exact ⟨p, o, by simpa using q1, q2, q3, q4, q5, List.mem_append_right _ q6⟩
/-- a slot gets a datum -/
theorem Slots.setD (h : Slots K B G H es σ ps) {i : Nat} {α : Type} {A : Rp α} {a : α} {v : V} (r : A.rel K G v a) : ∃ qs, Slots K B G H (es.set i (.dat A a)) (σ.set i (some v)) qs ∧ qs.Sublist ps := by
  induction h generalizing i with
  | nil => exact ⟨[], .nil, List.Sublist.refl _⟩
  | un h ih =>
    cases i with
    | zero => exact ⟨_, .dat r h, List.Sublist.refl _⟩
    | succ i => obtain ⟨qs, q, s⟩ := ih (i := i); exact ⟨qs, .un q, s⟩
  | dat h1 h ih =>
    cases i with
    | zero => exact ⟨_, .dat r h, List.Sublist.refl _⟩
    | succ i => obtain ⟨qs, q, s⟩ := ih (i := i); exact ⟨qs, .dat h1 q, s⟩
  | own h1 h2 h3 h4 h ih =>
    cases i with
    | zero => exact ⟨_, .dat r h, List.sublist_cons_self _ _⟩
    | succ i => obtain ⟨qs, q, s⟩ := ih (i := i); exact ⟨_ :: qs, .own h1 h2 h3 h4 q, s.cons_cons _⟩
  | fam h1 h2 h ih =>
    cases i with
    | zero => exact ⟨_, .dat r h, List.sublist_append_right _ _⟩
    | succ i => obtain ⟨qs, q, s⟩ := ih (i := i); exact ⟨_, .fam h1 h2 q, s.append_left _⟩
theorem Slots.setU (h : Slots K B G H es σ ps) {i : Nat} {o : Option V} : ∃ qs, Slots K B G H (es.set i .un) (σ.set i o) qs ∧ qs.Sublist ps := by
  induction h generalizing i with
  | nil => exact ⟨[], .nil, List.Sublist.refl _⟩
  | un h ih =>
    cases i with
    | zero => exact ⟨_, .un h, List.Sublist.refl _⟩
    | succ i => obtain ⟨qs, q, s⟩ := ih (i := i); exact ⟨qs, .un q, s⟩
  | dat h1 h ih =>
    cases i with
    | zero => exact ⟨_, .un h, List.Sublist.refl _⟩
    | succ i => obtain ⟨qs, q, s⟩ := ih (i := i); exact ⟨qs, .dat h1 q, s⟩
  | own h1 h2 h3 h4 h ih =>
    cases i with
    | zero => exact ⟨_, .un h, List.sublist_cons_self _ _⟩
    | succ i => obtain ⟨qs, q, s⟩ := ih (i := i); exact ⟨_ :: qs, .own h1 h2 h3 h4 q, s.cons_cons _⟩
  | fam h1 h2 h ih =>
    cases i with
    | zero => exact ⟨_, .un h, List.sublist_append_right _ _⟩
    | succ i => obtain ⟨qs, q, s⟩ := ih (i := i); exact ⟨_, .fam h1 h2 q, s.append_left _⟩
/-- a slot gets an object that it owns -/
theorem Slots.setO (h : Slots K B G H es σ ps) {i : Nat} {O : Oc} {p : Addr} {o : HO} (h1 : H p = some o) (h2 : O.rel K G p o) (h3 : G p = none) (h4 : B.H p = none) (hp : p ∉ ps) (hn : ps.Nodup) :
    ∃ qs, Slots K B G H (es.set i (.own O)) (σ.set i (some (.ref p))) qs ∧ qs.Nodup ∧ ∀ q ∈ qs, q = p ∨ q ∈ ps := by
  induction h generalizing i with
  | nil => exact ⟨[], .nil, by simp, by simp⟩
  | un h ih =>
    cases i with
    | zero => exact ⟨_, .own h1 h2 h3 h4 h, by simp [hp, hn], by simp⟩
    | succ i => obtain ⟨qs, q, s, t⟩ := ih (i := i) hp hn; exact ⟨qs, .un q, s, t⟩
  | dat g1 h ih =>
    cases i with
    | zero => exact ⟨_, .own h1 h2 h3 h4 h, by simp [hp, hn], by simp⟩
    | succ i => obtain ⟨qs, q, s, t⟩ := ih (i := i) hp hn; exact ⟨qs, .dat g1 q, s, t⟩
  | @own _ _ ps O' p' o' g1 g2 g3 g4 h ih =>
    have hn' := List.nodup_cons.mp hn
    have hp' : p ≠ p' ∧ p ∉ ps := by simpa using hp
    cases i with
    | zero => exact ⟨_, .own h1 h2 h3 h4 h, List.nodup_cons.mpr ⟨hp'.2, hn'.2⟩, fun q hq => by
        rcases List.mem_cons.mp hq with e | e
        · exact .inl e
        · exact .inr (by simp [e])⟩
    | succ i =>
      obtain ⟨qs, q, s, t⟩ := ih (i := i) hp'.2 hn'.2
      refine ⟨_ :: qs, .own g1 g2 g3 g4 q, List.nodup_cons.mpr ⟨fun hm => ?_, s⟩, fun z hz => ?_⟩
      · rcases t _ hm with e | e
        · exact hp'.1 e.symm
        · exact hn'.1 e
      · rcases List.mem_cons.mp hz with e | e
        · exact .inr (by simp [e])
        · rcases t _ e with e | e
          · exact .inl e
          · exact .inr (by simp [e])
  | @fam _ _ ps F p' qs' g1 g2 h ih =>
    have hn' := List.nodup_append.mp hn
    have hp1 : p ∉ p' :: qs' := fun q => hp (List.mem_append_left _ q)
    have hp2 : p ∉ ps := fun q => hp (List.mem_append_right _ q)
    cases i with
    | zero => exact ⟨_, .own h1 h2 h3 h4 h, List.nodup_cons.mpr ⟨hp2, hn'.2.1⟩, fun q hq => by
        rcases List.mem_cons.mp hq with e | e
        · exact .inl e
        · exact .inr (List.mem_append_right _ e)⟩
    | succ i =>
      obtain ⟨qs, q, s, t⟩ := ih (i := i) hp2 hn'.2.1
      refine ⟨_, .fam g1 g2 q, List.nodup_append.mpr ⟨hn'.1, s, fun a ha b hb e => ?_⟩, fun z hz => ?_⟩
      · subst e
        rcases t _ hb with c | c
        · exact hp1 (c ▸ ha)
        · exact hn'.2.2 a ha a c rfl
      · rcases List.mem_append.mp hz with e | e
        · exact .inr (List.mem_append_left _ e)
        · rcases t _ e with e | e
          · exact .inl e
          · exact .inr (List.mem_append_right _ e)
/-- the object of a slot is another one -/
theorem Slots.mut (h : Slots K B G H es σ ps) {i : Nat} {O O' : Oc} {p : Addr} {o' : HO} (e : es[i]? = some (.own O)) (hσ : σ[i]? = some (some (.ref p))) (h2 : O'.rel K G p o') (hn : ps.Nodup) :
    Slots K B G (upd H p o') (es.set i (.own O')) σ ps := by
  induction h generalizing i with
  | nil => simp at e
  | un h ih =>
    cases i with
    | zero => simp at e
    | succ i => exact .un (ih (i := i) (by simpa using e) (by simpa using hσ) hn)
  | dat g1 h ih =>
    cases i with
    | zero => simp at e
    | succ i => exact .dat g1 (ih (i := i) (by simpa using e) (by simpa using hσ) hn)
  | @own _ _ ps O1 p' o1 g1 g2 g3 g4 h ih =>
    have hn' := List.nodup_cons.mp hn
    cases i with
    | zero =>
      simp only [List.getElem?_cons_zero, Option.some.injEq, V.ref.injEq] at hσ
      subst hσ
      refine .own upd_same h2 g3 g4 (h.to (Same.refl _) fun q hq => ⟨(h.free q hq).1, upd_ne fun z => hn'.1 (z ▸ hq)⟩)
    | succ i =>
      have r := ih (i := i) (by simpa using e) (by simpa using hσ) hn'.2
      have hm : p ∈ ps := by
        obtain ⟨p2, o2, q1, _, _, _, _, q6⟩ := h.getO (i := i) (O := O) (by simpa using e)
        have : some (some (V.ref p2)) = some (some (V.ref p)) := q1.symm.trans (by simpa using hσ)
        simp only [Option.some.injEq, V.ref.injEq] at this
        exact this ▸ q6
      exact .own ((upd_ne fun z => hn'.1 (by rw [z]; exact hm)).trans g1) g2 g3 g4 r
  | @fam _ _ ps F p' qs' g1 g2 h ih =>
    have hn' := List.nodup_append.mp hn
    cases i with
    | zero => simp at e
    | succ i =>
      have r := ih (i := i) (by simpa using e) (by simpa using hσ) hn'.2.1
      have hm : p ∈ ps := by
        obtain ⟨p2, o2, q1, _, _, _, _, q6⟩ := h.getO (i := i) (O := O) (by simpa using e)
        have : some (some (V.ref p2)) = some (some (V.ref p)) := q1.symm.trans (by simpa using hσ)
        simp only [Option.some.injEq, V.ref.injEq] at this
        exact this ▸ q6
      have hne : ∀ q ∈ p' :: qs', upd H p o' q = H q := fun q hq => upd_ne fun z => hn'.2.2 q hq p hm z
      exact .fam (F.mono (Same.refl _) hne g1) (fun q hq => by
        obtain ⟨a, b, o, c⟩ := g2 q hq
        exact ⟨a, b, o, (hne q hq).trans c⟩) r
/-- the object of a slot is let stand: it is a datum from here on -/
theorem Slots.freeze (h : Slots K B G H es σ ps) {i : Nat} {O : Oc} {α : Type} {A : Rp α} {a : α} {p : Addr} {o : HO} (e : es[i]? = some (.own O)) (hσ : σ[i]? = some (some (.ref p))) (ho : H p = some o) (hA : ∀ G' : Hp, Same G G' → G' p = some o → A.rel K G' (.ref p) a) (hn : ps.Nodup) :
    ∃ qs, Slots K B (upd G p o) H (es.set i (.dat A a)) σ qs ∧ qs.Sublist ps := by
  obtain ⟨p2, o2, q1, q2, q3, q4, q5, q6⟩ := h.getO e
  have hp : p2 = p := by
    have : some (some (V.ref p2)) = some (some (V.ref p)) := q1.symm.trans hσ
    simpa using this
  subst hp
  have gg : Same G (upd G p2 o) := same_upd o q4
  have key : ∀ {es : List Sl} {σ : L2.St} {ps : List Addr} {i : Nat}, Slots K B G H es σ ps → es[i]? = some (.own O) → σ[i]? = some (some (.ref p2)) → ps.Nodup →
      ∃ qs, Slots K B (upd G p2 o) H (es.set i (.dat A a)) σ qs ∧ qs.Sublist ps := by
    intro es σ ps i h
    induction h generalizing i with
    | nil => intro e; simp at e
    | un h ih =>
      intro e hσ hn
      cases i with
      | zero => simp at e
      | succ i => obtain ⟨qs, q, s⟩ := ih (i := i) (by simpa using e) (by simpa using hσ) hn; exact ⟨qs, .un q, s⟩
    | @dat _ _ _ _ A' _ _ g1 h ih =>
      intro e hσ hn
      cases i with
      | zero => simp at e
      | succ i => obtain ⟨qs, q, s⟩ := ih (i := i) (by simpa using e) (by simpa using hσ) hn; exact ⟨qs, .dat (A'.mono gg g1) q, s⟩
    | @own _ _ ps O1 p' o1 g1 g2 g3 g4 h ih =>
      intro e hσ hn
      have hn' := List.nodup_cons.mp hn
      cases i with
      | zero =>
        simp only [List.getElem?_cons_zero, Option.some.injEq, V.ref.injEq] at hσ
        subst hσ
        exact ⟨ps, .dat (hA _ gg upd_same) (h.to gg fun q hq => ⟨(upd_ne (show q ≠ p' from fun z => hn'.1 (by rw [← z]; exact hq))).trans (h.free q hq).1, rfl⟩), List.sublist_cons_self _ _⟩
      | succ i =>
        obtain ⟨qs, q, s⟩ := ih (i := i) (by simpa using e) (by simpa using hσ) hn'.2
        have hm : p2 ∈ ps := by
          obtain ⟨p3, o3, r1, _, _, _, _, r6⟩ := h.getO (i := i) (O := O) (by simpa using e)
          have : some (some (V.ref p3)) = some (some (V.ref p2)) := r1.symm.trans (by simpa using hσ)
          simp only [Option.some.injEq, V.ref.injEq] at this
          exact this ▸ r6
        exact ⟨_ :: qs, .own g1 (O1.mono gg g2) ((upd_ne fun z => hn'.1 (by rw [z]; exact hm)).trans g3) g4 q, s.cons_cons _⟩
    | @fam _ _ ps F p' qs' g1 g2 h ih =>
      intro e hσ hn
      have hn' := List.nodup_append.mp hn
      cases i with
      | zero => simp at e
      | succ i =>
        obtain ⟨qs, q, s⟩ := ih (i := i) (by simpa using e) (by simpa using hσ) hn'.2.1
        have hm : p2 ∈ ps := by
          obtain ⟨p3, o3, r1, _, _, _, _, r6⟩ := h.getO (i := i) (O := O) (by simpa using e)
          have : some (some (V.ref p3)) = some (some (V.ref p2)) := r1.symm.trans (by simpa using hσ)
          simp only [Option.some.injEq, V.ref.injEq] at this
          exact this ▸ r6
        refine ⟨_, .fam (F.mono gg (fun _ _ => rfl) g1) (fun z hz => ?_) q, s.append_left _⟩
        obtain ⟨a, b, c⟩ := g2 z hz
        exact ⟨(upd_ne fun w => hn'.2.2 z hz p2 hm w).trans a, b, c⟩
  exact key h e hσ hn

theorem EnvA.get (E : EnvA K B es σ G H) {i : Nat} {α : Type} {A : Rp α} {a : α} (e : es[i]? = some (.dat A a)) : ∃ v, σ[i]? = some (some v) ∧ A.rel K G v a :=
  let ⟨_, h, _⟩ := E.sl; h.get e
theorem EnvA.getO (E : EnvA K B es σ G H) {i : Nat} {O : Oc} (e : es[i]? = some (.own O)) : ∃ p o, σ[i]? = some (some (.ref p)) ∧ H p = some o ∧ O.rel K G p o ∧ G p = none ∧ B.H p = none :=
  let ⟨_, h, _⟩ := E.sl; let ⟨p, o, h1, h2, h3, h4, h5, _⟩ := h.getO e; ⟨p, o, h1, h2, h3, h4, h5⟩
theorem EnvA.setD (E : EnvA K B es σ G H) {i : Nat} {α : Type} {A : Rp α} {a : α} {v : V} (r : A.rel K G v a) : EnvA K B (es.set i (.dat A a)) (σ.set i (some v)) G H :=
  let ⟨_, h, n⟩ := E.sl; let ⟨qs, q, s⟩ := h.setD (i := i) r; ⟨E.st, qs, q, n.sublist s⟩
theorem EnvA.setU (E : EnvA K B es σ G H) {i : Nat} {o : Option V} : EnvA K B (es.set i .un) (σ.set i o) G H :=
  let ⟨_, h, n⟩ := E.sl; let ⟨qs, q, s⟩ := h.setU (i := i) (o := o); ⟨E.st, qs, q, n.sublist s⟩
theorem EnvA.fresh (E : EnvA K B es σ G H) {p : Addr} (hp : H p = none) {i : Nat} {O : Oc} {o : HO} (h2 : O.rel K G p o) : EnvA K B (es.set i (.own O)) (σ.set i (some (.ref p))) G (upd H p o) := by
  obtain ⟨ps, h, n⟩ := E.sl
  have s := Stp.fresh E.same hp o
  have hm : p ∉ ps := fun hm => by obtain ⟨_, _, o, e⟩ := h.free p hm; rw [hp] at e; cases e
  obtain ⟨qs, q, nd, _⟩ := (h.step s).setO (i := i) upd_same h2 (E.same.free hp) (E.st.hh.free hp) hm n
  exact ⟨E.st.trans s, qs, q, nd⟩
theorem EnvA.mut (E : EnvA K B es σ G H) {i : Nat} {O O' : Oc} {p : Addr} {o' : HO} (e : es[i]? = some (.own O)) (hσ : σ[i]? = some (some (.ref p))) (h2 : O'.rel K G p o') : EnvA K B (es.set i (.own O')) σ G (upd H p o') := by
  obtain ⟨ps, h, n⟩ := E.sl
  obtain ⟨p2, o2, q1, q2, q3, q4, q5, q6⟩ := h.getO e
  have hp : p2 = p := by
    have : some (some (V.ref p2)) = some (some (V.ref p)) := q1.symm.trans hσ
    simpa using this
  subst hp
  exact ⟨⟨E.st.gg, same_updL o' E.st.gh q4, same_updL o' E.st.hh q5, E.st.nw⟩, ps, h.mut e hσ h2 n, n⟩
theorem EnvA.freeze (E : EnvA K B es σ G H) {i : Nat} {O : Oc} {α : Type} {A : Rp α} {a : α} (e : es[i]? = some (.own O)) (hA : ∀ (G G' : Hp) (p : Addr) (o : HO), O.rel K G p o → Same G G' → G' p = some o → A.rel K G' (.ref p) a) :
    ∃ G', EnvA K B (es.set i (.dat A a)) σ G' H := by
  obtain ⟨ps, h, n⟩ := E.sl
  obtain ⟨p, o, q1, q2, q3, q4, q5, q6⟩ := h.getO e
  obtain ⟨qs, q, s⟩ := h.freeze e q1 q2 (fun G' s z => hA G G' p o q3 s z) n
  refine ⟨upd G p o, ⟨⟨E.st.gg.trans (same_upd o q4), fun b u eb => ?_, E.st.hh, fun b u eb => ?_⟩, qs, q, n.sublist s⟩⟩
  · by_cases hb : b = p
    · subst hb; rw [upd_same] at eb; cases eb; exact q2
    · rw [upd_ne hb] at eb; exact E.st.gh b u eb
  · by_cases hb : b = p
    · subst hb; exact .inr q5
    · rw [upd_ne hb] at eb; exact E.st.nw b u eb
theorem EnvA.frz_l {α : Type} {A : Rp α} {xs : List α} (E : EnvA K B es σ G H) {i : Nat} (e : es[i]? = some (.own (.lst A xs))) : ∃ G', EnvA K B (es.set i (.dat A.lst xs)) σ G' H :=
  E.freeze e fun G G' p o ⟨vs, eo, q, z⟩ s hp => ⟨p, vs, rfl, by rw [hp, eo], pmono (fun _ _ => A.mono s) q, z⟩
theorem EnvA.frz_d {α : Type} {A : Rp α} {xs : List (Str × α)} (E : EnvA K B es σ G H) {i : Nat} (e : es[i]? = some (.own (.dct A xs))) : ∃ G', EnvA K B (es.set i (.dat A.dct xs)) σ G' H :=
  E.freeze e fun G G' p o ⟨ds, eo, q, z⟩ s hp => ⟨p, ds, rfl, .inl (by rw [hp, eo]), pmono (fun _ _ ⟨h1, h2, h3⟩ => ⟨h1, A.mono s h2, h3⟩) q, z⟩
/-- what is known is forgotten -/
theorem Slots.weak (h : Slots K B G H es σ ps) {i : Nat} : ∃ qs, Slots K B G H (es.set i .un) σ qs ∧ qs.Sublist ps := by
  induction h generalizing i with
  | nil => exact ⟨[], .nil, List.Sublist.refl _⟩
  | un h ih =>
    cases i with
    | zero => exact ⟨_, .un h, List.Sublist.refl _⟩
    | succ i => obtain ⟨qs, q, s⟩ := ih (i := i); exact ⟨qs, .un q, s⟩
  | dat h1 h ih =>
    cases i with
    | zero => exact ⟨_, .un h, List.Sublist.refl _⟩
    | succ i => obtain ⟨qs, q, s⟩ := ih (i := i); exact ⟨qs, .dat h1 q, s⟩
  | own h1 h2 h3 h4 h ih =>
    cases i with
    | zero => exact ⟨_, .un h, List.sublist_cons_self _ _⟩
    | succ i => obtain ⟨qs, q, s⟩ := ih (i := i); exact ⟨_ :: qs, .own h1 h2 h3 h4 q, s.cons_cons _⟩
  | fam h1 h2 h ih =>
    cases i with
    | zero => exact ⟨_, .un h, List.sublist_append_right _ _⟩
    | succ i => obtain ⟨qs, q, s⟩ := ih (i := i); exact ⟨_, .fam h1 h2 q, s.append_left _⟩
theorem EnvA.weak (E : EnvA K B es σ G H) (i : Nat) : EnvA K B (es.set i .un) σ G H :=
  let ⟨_, h, n⟩ := E.sl; let ⟨qs, q, s⟩ := h.weak (i := i); ⟨E.st, qs, q, n.sublist s⟩
end
end Rw

/-! RwB: expressions judged on abstract slots -/
namespace Rw
open PySem L2

def tG (K : PySem.W.Frag) (B : Bs) (es : List Sl) (R : Rl) : TE := fun σ H Q => ∃ G, EnvA K B es σ G H ∧ ∀ v G' H', Stp G H G' H' → R.r K G' H' v → Q v H'
def tGT (K : PySem.W.Frag) (B : Bs) (es : List Sl) (b : Bool) : TT := fun σ H Q => ∃ G, EnvA K B es σ G H ∧ ∀ G' H', Stp G H G' H' → Q b H'
abbrev Als (K : PySem.W.Frag) (G H : Hp) (vs : List V) (Rs : List Rl) : Prop := Paired (fun v (R : Rl) => R.r K G H v) vs Rs
def tGA (K : PySem.W.Frag) (B : Bs) (es : List Sl) (Rs : List Rl) : TA := fun σ H Q => ∃ G, EnvA K B es σ G H ∧ ∀ vs G' H', Stp G H G' H' → Als K G' H' vs Rs → Q vs H'
/-- the expression's value stands in R, whatever the slots are that es tells -/
abbrev PR (X : Cx) (B : Bs) (es : List Sl) (e : Expr) (R : Rl) : Prop := PE X e (tG X.K B es R)
abbrev PB (X : Cx) (B : Bs) (es : List Sl) (e : Expr) (b : Bool) : Prop := PT X e (tGT X.K B es b)
abbrev PBw (X : Cx) (B : Bs) (es : List Sl) (e : Expr) (b : Bool) : Prop := PW X e (tGT X.K B es b)
abbrev PAr (X : Cx) (B : Bs) (es : List Sl) (as : List Expr) (Rs : List Rl) : Prop := PA X as (tGA X.K B es Rs)

theorem pe_imp {X : Cx} {e : Expr} {t t' : TE} (h : PE X e t) (k : ∀ σ H Q, t' σ H Q → t σ H Q) : PE X e t' := ⟨fun pins s σ H Q I q => h.run pins s σ H Q I (k σ H Q q)⟩
theorem pt_imp {X : Cx} {e : Expr} {t t' : TT} (h : PT X e t) (k : ∀ σ H Q, t' σ H Q → t σ H Q) : PT X e t' := ⟨fun pins s σ H Q I q => h.run pins s σ H Q I (k σ H Q q)⟩
theorem pw_imp {X : Cx} {e : Expr} {t t' : TT} (h : PW X e t) (k : ∀ σ H Q, t' σ H Q → t σ H Q) : PW X e t' := ⟨fun wh pins s σ H Q I q => h.run wh pins s σ H Q I (k σ H Q q)⟩
theorem pa_imp {X : Cx} {e : List Expr} {t t' : TA} (h : PA X e t) (k : ∀ σ H Q, t' σ H Q → t σ H Q) : PA X e t' := ⟨fun pos pins s σ H Q I q => h.run pos pins s σ H Q I (k σ H Q q)⟩
theorem pi_imp {X : Cx} {tg e : Expr} {t t' : TI} (h : PI X tg e t) (k : ∀ σ H Q, t' σ H Q → t σ H Q) : PI X tg e t' := ⟨fun pins s σ H Q I q => h.run pins s σ H Q I (k σ H Q q)⟩
theorem ps_imp {X : Cx} {st : Stmt} {t t' : TS} (h : PS X st t) (k : ∀ D σ H, t' D σ H → t D σ H) : PS X st t' := ⟨fun pins s σ H D I q => h.run pins s σ H D I (k D σ H q)⟩
theorem pss_imp {X : Cx} {st : List Stmt} {t t' : TS} (h : PSs X st t) (k : ∀ D σ H, t' D σ H → t D σ H) : PSs X st t' := ⟨fun pins s σ H D I q => h.run pins s σ H D I (k D σ H q)⟩

theorem pe_never {X : Cx} {e : Expr} : PE X e (fun _ _ _ => False) := ⟨fun _ _ _ _ _ _ z => False.elim z⟩
theorem pw_never {X : Cx} {e : Expr} : PW X e (fun _ _ _ => False) := ⟨fun _ _ _ _ _ _ _ z => False.elim z⟩
section
variable {X : Cx} {B : Bs} {es : List Sl} {e a b c : Expr} {R Ra Rb Rc : Rl} {pos : Pos}
theorem pr_of {t : TE} (h : PE X e t) (k : ∀ σ G H Q, EnvA X.K B es σ G H → (∀ v G' H', Stp G H G' H' → R.r X.K G' H' v → Q v H') → t σ H Q) : PR X B es e R :=
  pe_imp h fun σ H Q ⟨G, E, q⟩ => k σ G H Q E q
/-- a weaker relation -/
theorem pr_wk (h : PR X B es e R) (k : ∀ G H v, Same G H → R.r X.K G H v → Rc.r X.K G H v) : PR X B es e Rc :=
  pr_of h fun σ G H Q E q => ⟨G, E, fun v G' H' s r => q v G' H' s (k G' H' v s.gh r)⟩
theorem pr_eq {α : Type} {A : Rp α} {x y : α} (h : PR X B es e (A.at x)) (k : x = y) : PR X B es e (A.at y) := k ▸ h
/-! names, constants -/
theorem pr_var (i : Nat) {x : Str} {α : Type} {A : Rp α} {d : α} (hN : X.N[i]? = some x := by rfl) (he : es[i]? = some (.dat A d) := by rfl)
    (hv : Vis X.env.scope x := by first | exact Or.inl rfl | exact Or.inr (Or.inl rfl) | exact Or.inr (Or.inr rfl)) (hd : (x == ("__debug__" : Str)) = false := by decide)
    (hcd : (x == ("__classdict__" : Str)) = false := by decide) : PR X B es (.Name x pos) (A.at d) :=
  pr_of (pe_var hN hv hd hcd) fun σ G H Q E q => by
    obtain ⟨v, e, r⟩ := E.get he
    exact ⟨v, e, q v G H (Stp.refl E.same) r⟩
/-- a list that a slot owns, read -/
theorem pr_own (i : Nat) {x : Str} {α : Type} {A : Rp α} {d : List α} (hN : X.N[i]? = some x := by rfl) (he : es[i]? = some (.own (.lst A d)) := by rfl)
    (hv : Vis X.env.scope x := by first | exact Or.inl rfl | exact Or.inr (Or.inl rfl) | exact Or.inr (Or.inr rfl)) (hd : (x == ("__debug__" : Str)) = false := by decide)
    (hcd : (x == ("__classdict__" : Str)) = false := by decide) : PR X B es (.Name x pos) (rL A d) :=
  pr_of (pe_var hN hv hd hcd) fun σ G H Q E q => by
    obtain ⟨p, o, e, h1, ⟨vs, eo, r, z⟩, _, _⟩ := E.getO he
    subst eo
    exact ⟨_, e, q _ G H (Stp.refl E.same) ⟨p, vs, rfl, h1, r, z⟩⟩
theorem pr_ownD (i : Nat) {x : Str} {α : Type} {A : Rp α} {d : List (Str × α)} (hN : X.N[i]? = some x := by rfl) (he : es[i]? = some (.own (.dct A d)) := by rfl)
    (hv : Vis X.env.scope x := by first | exact Or.inl rfl | exact Or.inr (Or.inl rfl) | exact Or.inr (Or.inr rfl)) (hd : (x == ("__debug__" : Str)) = false := by decide)
    (hcd : (x == ("__classdict__" : Str)) = false := by decide) : PR X B es (.Name x pos) (rD A d) :=
  pr_of (pe_var hN hv hd hcd) fun σ G H Q E q => by
    obtain ⟨p, o, e, h1, ⟨vs, eo, r, z⟩, _, _⟩ := E.getO he
    subst eo
    exact ⟨_, e, q _ G H (Stp.refl E.same) ⟨p, vs, rfl, .inl h1, r, z⟩⟩
theorem pr_l {α : Type} {A : Rp α} {d : List α} (h : PR X B es e (A.lst.at d)) : PR X B es e (rL A d) :=
  pr_wk h fun G H v s ⟨p, vs, e, h, r, z⟩ => ⟨p, vs, e, s _ _ h, r, z⟩
theorem pr_d {α : Type} {A : Rp α} {d : List (Str × α)} (h : PR X B es e (A.dct.at d)) : PR X B es e (rD A d) :=
  pr_wk h fun G H v s ⟨p, vs, e, h, r, z⟩ => ⟨p, vs, e, same_rd s h, r, z⟩
theorem pr_q {α : Type} {A : Rp α} {d : List α} (h : PR X B es e (A.scr.at d)) : PR X B es e (rLq A d) :=
  pr_wk h fun G H v s ⟨p, vs, e, h, r, z⟩ => ⟨p, vs, e, s.seq h, r, z⟩
theorem pr_int {i j} : PR X B es (.Constant (.int i) j pos) (Rp.int.at i) := pr_of pe_int fun σ G H Q E q => q _ G H (Stp.refl E.same) rfl
theorem pr_bl {i j} : PR X B es (.Constant (.bool i) j pos) (Rp.bl.at i) := pr_of pe_bl fun σ G H Q E q => q _ G H (Stp.refl E.same) rfl
theorem pr_str {x j} (h : SOk x := by decide +kernel) : PR X B es (.Constant (.str x) j pos) (Rp.str.at x) := pr_of pe_str fun σ G H Q E q => q _ G H (Stp.refl E.same) ⟨rfl, h⟩
/-- a constant of the module -/
theorem pr_globI {x : Str} {i : Int} {t : Tok} (hm : X.mg x = some (.int i t)) (hg : Gl X x := by rfl) (hd : (x == ("__debug__" : Str)) = false := by decide) : PR X B es (.Name x pos) (Rp.int.at i) :=
  pr_of (pe_glob hg hm (v := .int i) ⟨_, rfl⟩ hd) fun σ G H Q E q => q _ G H (Stp.refl E.same) rfl
theorem pr_globS {x y : Str} {t : Tok} (hm : X.mg x = some (.str y t)) (h : SOk y := by decide +kernel) (hg : Gl X x := by rfl) (hd : (x == ("__debug__" : Str)) = false := by decide) : PR X B es (.Name x pos) (Rp.str.at y) :=
  pr_of (pe_glob hg hm (v := .str y) ⟨_, rfl⟩ hd) fun σ G H Q E q => q _ G H (Stp.refl E.same) ⟨rfl, h⟩

/-! operators -/
def Op2 (K : PySem.W.Frag) (r : R2) (Ra Rb Rc : Rl) : Prop := ∀ (G H : Hp) (x y : V) (Q : VK), Same G H → Ra.r K G H x → Rb.r K G H y → (∀ z G' H', Stp G H G' H' → Rc.r K G' H' z → Q z H') → r x y H Q
theorem two {ta tb : TE} {r : R2} (ho : Op2 X.K r Ra Rb Rc) {σ : L2.St} {G H : Hp} {Q : VK} (E : EnvA X.K B es σ G H) (q : ∀ v G' H', Stp G H G' H' → Rc.r X.K G' H' v → Q v H') :
    tOp r (tG X.K B es Ra) (tG X.K B es Rb) σ H Q :=
  ⟨G, E, fun x G1 H1 s1 r1 => ⟨G1, E.step s1, fun y G2 H2 s2 r2 => ho G2 H2 x y Q s2.gh (Ra.mono s2 r1) r2 fun z G3 H3 s3 r3 => q z G3 H3 ((s1.trans s2).trans s3) r3⟩⟩
theorem Op2.val {K : PySem.W.Frag} {r : R2} (h : ∀ G H x y (Q : VK), Same G H → Ra.r K G H x → Rb.r K G H y → ∃ z, Rc.r K G H z ∧ (Q z H → r x y H Q)) : Op2 K r Ra Rb Rc :=
  fun G H x y Q s rx ry q => let ⟨z, hz, k⟩ := h G H x y Q s rx ry; k (q z G H (Stp.refl s) hz)
def Bin (X : Cx) (op : Operator) (Ra Rb Rc : Rl) : Prop := ∃ r, OpR X (binaryOp op) r ∧ Op2 X.K r Ra Rb Rc
theorem pr_bin {op : Operator} (ha : PR X B es a Ra) (hb : PR X B es b Rb) (h : Bin X op Ra Rb Rc) : PR X B es (.BinOp a op b pos) Rc :=
  let ⟨_, ho, h2⟩ := h; pr_of (pe_op ho ha hb) fun _ _ _ _ E q => two (ta := tG X.K B es Ra) (tb := tG X.K B es Rb) h2 E q
theorem bin_add {i j : Int} : Bin X .Add (Rp.int.at i) (Rp.int.at j) (Rp.int.at (i + j)) := ⟨_, op_add, Op2.val fun G H x y Q s hx hy => ⟨_, rfl, fun q => ⟨i, j, hx, hy, q⟩⟩⟩
theorem bin_sub {i j : Int} : Bin X .Sub (Rp.int.at i) (Rp.int.at j) (Rp.int.at (i - j)) := ⟨_, op_sub, Op2.val fun G H x y Q s hx hy => ⟨_, rfl, fun q => ⟨i, j, hx, hy, q⟩⟩⟩
theorem bin_mod {i j : Int} (h : 0 < j) : Bin X .Mod (Rp.int.at i) (Rp.int.at j) (Rp.int.at (i % j)) := ⟨_, op_mod, Op2.val fun G H x y Q s hx hy => ⟨_, rfl, fun q => ⟨i, j, hx, hy, h, q⟩⟩⟩
theorem bin_div {i j : Int} (h : 0 < j ∧ j < 1073741824) : Bin X .FloorDiv (Rp.int.at i) (Rp.int.at j) (Rp.int.at (i / j)) := ⟨_, op_fdiv, Op2.val fun G H x y Q s hx hy => ⟨_, rfl, fun q => ⟨i, j, hx, hy, h, q⟩⟩⟩
theorem len_append (x y : Str) : (x ++ y).length = x.length + y.length := by
  show (x.cps ++ y.cps).size = x.cps.size + y.cps.size
  exact Array.size_append
theorem strMax_le : strMax ≤ sizeLine := by rw [sizeLine_eq]; decide
theorem strOk_append {x y : Str} (hx : PyData.strOk x = true) (hy : PyData.strOk y = true) : PyData.strOk (x ++ y) = true := by
  show (x.cps ++ y.cps).all _ = true
  rw [Array.all_append]
  exact Bool.and_eq_true_iff.mpr ⟨hx, hy⟩
theorem strOk_sign {x : Str} {c : Nat} (hx : PyData.strOk x = true) (hc : c ∈ x.cps.toList) : SOk ⟨#[c]⟩ := by
  refine ⟨by show 1 ≤ strMax; decide, ?_⟩
  have h : x.cps.all (· < 0x110000) = true := hx
  rw [← Array.all_toList, List.all_eq_true] at h
  show (#[c] : Array Nat).all _ = true
  simpa using h c hc
theorem bin_addS {x y : Str} (h : x.length + y.length ≤ strMax) : Bin X .Add (Rp.str.at x) (Rp.str.at y) (Rp.str.at (x ++ y)) :=
  ⟨_, op_add_str, Op2.val fun G H u v Q s hx hy => ⟨.str (x ++ y), ⟨rfl, by rw [len_append]; exact h, strOk_append hx.2.2 hy.2.2⟩, fun q => ⟨x, y, hx.1, hy.1, Nat.le_trans h strMax_le, q⟩⟩⟩
theorem bin_cat {α : Type} {A : Rp α} {xs ys : List α} (h : xs.length + ys.length ≤ sizeLine) : Bin X .Add (rL A xs) (rL A ys) (A.lst.at (xs ++ ys)) :=
  ⟨_, op_cat, fun G H u v Q s ⟨p, us, e1, h1, r1, z1⟩ ⟨p2, ws, e2, h2, r2, z2⟩ q =>
    ⟨p, p2, us, ws, e1, e2, h1, h2, by rw [r1.length, r2.length]; exact h, fun l hl => q _ _ _ (Stp.new s hl _)
      ⟨l, us ++ ws, rfl, upd_same, pappend (pmono (fun _ _ => A.mono (same_upd _ (s.free hl))) r1) (pmono (fun _ _ => A.mono (same_upd _ (s.free hl))) r2), by rw [List.length_append]; exact h⟩⟩⟩
theorem bin_catT {α : Type} {A : Rp α} {xs ys : List α} (h : xs.length + ys.length ≤ sizeLine) : Bin X .Add (A.tup.at xs) (A.tup.at ys) (A.tup.at (xs ++ ys)) :=
  ⟨_, op_catA, fun G H u v Q s ⟨p, us, e1, h1, r1, z1⟩ ⟨p2, ws, e2, h2, r2, z2⟩ q =>
    ⟨p, p2, us, ws, e1, e2, same_t s h1, same_t s h2, by rw [r1.length, r2.length]; exact h,
      fun e => by
        have : xs = [] := List.eq_nil_of_length_eq_zero (by rw [← r1.length, e]; rfl)
        subst this
        exact q _ G H (Stp.refl s) ⟨p2, ws, rfl, h2, r2, z2⟩,
      fun _ e => by
        have : ys = [] := List.eq_nil_of_length_eq_zero (by rw [← r2.length, e]; rfl)
        subst this
        exact q _ G H (Stp.refl s) ⟨p, us, rfl, h1, by rw [List.append_nil]; exact r1, by rw [List.append_nil]; exact z1⟩,
      fun _ _ l hl => q _ _ _ (Stp.new s hl _)
      ⟨l, us ++ ws, rfl, SqT.of upd_same, pappend (pmono (fun _ _ => A.mono (same_upd _ (s.free hl))) r1) (pmono (fun _ _ => A.mono (same_upd _ (s.free hl))) r2), by rw [List.length_append]; exact h⟩⟩⟩

/-! comparisons -/
def Cmp (X : Cx) (op : CmpOp) (Ra Rb : Rl) (k : Bool) : Prop := ∃ r, OpR X (compareOp op) r ∧ Op2 X.K r Ra Rb (Rp.bl.at k)
theorem pr_cmp {op : CmpOp} {k : Bool} (ha : PR X B es a Ra) (hb : PR X B es b Rb) (h : Cmp X op Ra Rb k) (hm : behindInMarks op b = false := by first | exact nobehind _ (by decide) (by decide) | rfl) : PR X B es (.Compare a [op] [b] pos) (Rp.bl.at k) :=
  let ⟨_, ho, h2⟩ := h; pr_of (pe_cmpR ho ha hb hm) fun _ _ _ _ E q => two (ta := tG X.K B es Ra) (tb := tG X.K B es Rb) h2 E q
theorem pb_cmp {op : CmpOp} {k : Bool} (ha : PR X B es a Ra) (hb : PR X B es b Rb) (h : Cmp X op Ra Rb k) (hm : behindInMarks op b = false := by first | exact nobehind _ (by decide) (by decide) | rfl) : PB X B es (.Compare a [op] [b] pos) k :=
  let ⟨_, ho, h2⟩ := h; pt_imp (pt_cmpR ho ha hb hm) fun _ _ _ ⟨_, E, q⟩ => two (ta := tG X.K B es Ra) (tb := tG X.K B es Rb) h2 E fun v G' H' s r => ⟨k, r, q G' H' s⟩
theorem cmp_lt {i j : Int} : Cmp X .Lt (Rp.int.at i) (Rp.int.at j) (decide (i < j)) := ⟨_, op_lt, Op2.val fun G H x y Q s hx hy => ⟨_, rfl, fun q => ⟨i, j, hx, hy, q⟩⟩⟩
theorem cmp_le {i j : Int} : Cmp X .LtE (Rp.int.at i) (Rp.int.at j) (decide (i ≤ j)) := ⟨_, op_le, Op2.val fun G H x y Q s hx hy => ⟨_, rfl, fun q => ⟨i, j, hx, hy, q⟩⟩⟩
theorem cmp_gt {i j : Int} : Cmp X .Gt (Rp.int.at i) (Rp.int.at j) (decide (j < i)) := ⟨_, op_gt, Op2.val fun G H x y Q s hx hy => ⟨_, rfl, fun q => ⟨i, j, hx, hy, q⟩⟩⟩
theorem cmp_ge {i j : Int} : Cmp X .GtE (Rp.int.at i) (Rp.int.at j) (decide (j ≤ i)) := ⟨_, op_ge, Op2.val fun G H x y Q s hx hy => ⟨_, rfl, fun q => ⟨i, j, hx, hy, q⟩⟩⟩
theorem cmp_eqI {i j : Int} : Cmp X .Eq (Rp.int.at i) (Rp.int.at j) (decide (i = j)) := ⟨_, op_eq, Op2.val fun G H x y Q s hx hy => ⟨_, rfl, fun q => by
  have hx : x = .int i := hx
  have hy : y = .int j := hy
  subst hx; subst hy
  refine ⟨rfl, ?_⟩
  rw [show decide (V.int i = V.int j) = decide (i = j) from by simp]
  exact q⟩⟩
theorem cmp_neI {i j : Int} : Cmp X .NotEq (Rp.int.at i) (Rp.int.at j) (!decide (i = j)) := ⟨_, op_ne, Op2.val fun G H x y Q s hx hy => ⟨_, rfl, fun q => by
  have hx : x = .int i := hx
  have hy : y = .int j := hy
  subst hx; subst hy
  refine ⟨rfl, ?_⟩
  rw [show decide (V.int i = V.int j) = decide (i = j) from by simp]
  exact q⟩⟩
theorem cmp_eqS {i j : Str} : Cmp X .Eq (Rp.str.at i) (Rp.str.at j) (decide (i = j)) := ⟨_, op_eq, Op2.val fun G H x y Q s ⟨hx, _⟩ ⟨hy, _⟩ => ⟨_, rfl, fun q => by
  subst hx; subst hy
  refine ⟨rfl, ?_⟩
  rw [show decide (V.str i = V.str j) = decide (i = j) from by simp]
  exact q⟩⟩
theorem cmp_neS {i j : Str} : Cmp X .NotEq (Rp.str.at i) (Rp.str.at j) (!decide (i = j)) := ⟨_, op_ne, Op2.val fun G H x y Q s ⟨hx, _⟩ ⟨hy, _⟩ => ⟨_, rfl, fun q => by
  subst hx; subst hy
  refine ⟨rfl, ?_⟩
  rw [show decide (V.str i = V.str j) = decide (i = j) from by simp]
  exact q⟩⟩
theorem inV_str (x : Str) (xs : List Str) : inV (.str x) (xs.map V.str) = decide (x ∈ xs) := by
  unfold inV
  rw [Bool.eq_iff_iff, List.any_eq_true, decide_eq_true_eq]
  constructor
  · rintro ⟨y, hy, e⟩
    obtain ⟨z, hz, rfl⟩ := List.mem_map.mp hy
    have : z = x := by simpa [eqV] using e
    exact this ▸ hz
  · intro h
    exact ⟨.str x, List.mem_map.mpr ⟨x, h, rfl⟩, by simp [eqV]⟩
theorem flat_strs (xs : List Str) : (xs.map V.str).all flatV = true := by
  induction xs with
  | nil => rfl
  | cons x r ih => rw [List.map_cons, List.all_cons, ih]; rfl
theorem strs_of {K : PySem.W.Frag} {G : Hp} {vs : List V} {xs : List Str} (h : Paired (Rp.str.rel K G) vs xs) : vs = xs.map V.str := pmap_eq (pmono (fun _ _ q => q.1) h)
theorem ints_of {K : PySem.W.Frag} {G : Hp} {vs : List V} {xs : List Int} (h : Paired (Rp.int.rel K G) vs xs) : vs = xs.map V.int := pmap_eq (pmono (fun _ _ q => q) h)
theorem bls_of {K : PySem.W.Frag} {G : Hp} {vs : List V} {xs : List Bool} (h : Paired (Rp.bl.rel K G) vs xs) : vs = xs.map V.bl := pmap_eq (pmono (fun _ _ q => q) h)
/-- a text in a list, a tuple of texts -/
theorem cmp_inL {x : Str} {xs : List Str} : Cmp X .In (Rp.str.at x) (rL Rp.str xs) (decide (x ∈ xs)) := ⟨_, op_in_seq, Op2.val fun G H u v Q s ⟨hx, _⟩ ⟨p, vs, e, h, r, z⟩ => ⟨_, rfl, fun q => by
  have e2 := strs_of r
  subst hx; subst e2
  exact ⟨p, _, e, .inl (SqL.of h), rfl, flat_strs _, by rw [inV_str]; exact q⟩⟩⟩
theorem cmp_niL {x : Str} {xs : List Str} : Cmp X .NotIn (Rp.str.at x) (rL Rp.str xs) (!decide (x ∈ xs)) := ⟨_, op_notIn_seq, Op2.val fun G H u v Q s ⟨hx, _⟩ ⟨p, vs, e, h, r, z⟩ => ⟨_, rfl, fun q => by
  have e2 := strs_of r
  subst hx; subst e2
  exact ⟨p, _, e, .inl (SqL.of h), rfl, flat_strs _, by rw [inV_str]; exact q⟩⟩⟩
theorem cmp_inT {x : Str} {xs : List Str} : Cmp X .In (Rp.str.at x) (Rp.str.tup.at xs) (decide (x ∈ xs)) := ⟨_, op_in_seq, Op2.val fun G H u v Q s ⟨hx, _⟩ ⟨p, vs, e, h, r, z⟩ => ⟨_, rfl, fun q => by
  have e2 := strs_of r
  subst hx; subst e2
  exact ⟨p, _, e, .inr (same_t s h), rfl, flat_strs _, by rw [inV_str]; exact q⟩⟩⟩

/-! and, or, not as values -/
theorem pr_not {k : Bool} (h : PR X B es a (Rp.bl.at k)) : PR X B es (.UnaryOp .Not a pos) (Rp.bl.at (!k)) :=
  pr_of (pe_not h) fun _ G H Q E q => ⟨G, E, fun v G' H' s r => ⟨k, r, q _ G' H' s rfl⟩⟩
theorem pr_one {op : BoolOp} (h : PR X B es a R) : PR X B es (.BoolOp op [a] pos) R := pe_one h
theorem pr_and {k l : Bool} {rest : List Expr} (h : PR X B es a (Rp.bl.at k)) (h2 : k = true → PR X B es (.BoolOp .And (b :: rest) pos) (Rp.bl.at l)) : PR X B es (.BoolOp .And (a :: b :: rest) pos) (Rp.bl.at (k && l)) := by
  cases k with
  | true =>
    refine pr_of (pe_and h (h2 rfl)) fun σ G H Q E q => ⟨G, E, fun v G' H' s r => ⟨true, r, ?_⟩⟩
    refine iteT ?_
    exact ⟨G', E.step s, fun v2 G2 H2 s2 r2 => q v2 G2 H2 (s.trans s2) (by simpa using r2)⟩
  | false =>
    refine pr_of (pe_and h pe_never) fun σ G H Q E q => ⟨G, E, fun v G' H' s r => ⟨false, r, ?_⟩⟩
    refine iteF ?_
    exact q _ G' H' s rfl
theorem pr_or {k l : Bool} {rest : List Expr} (h : PR X B es a (Rp.bl.at k)) (h2 : k = false → PR X B es (.BoolOp .Or (b :: rest) pos) (Rp.bl.at l)) : PR X B es (.BoolOp .Or (a :: b :: rest) pos) (Rp.bl.at (k || l)) := by
  cases k with
  | false =>
    refine pr_of (pe_or h (h2 rfl)) fun σ G H Q E q => ⟨G, E, fun v G' H' s r => ⟨false, r, ?_⟩⟩
    refine iteF ?_
    exact ⟨G', E.step s, fun v2 G2 H2 s2 r2 => q v2 G2 H2 (s.trans s2) (by simpa using r2)⟩
  | true =>
    refine pr_of (pe_or h pe_never) fun σ G H Q E q => ⟨G, E, fun v G' H' s r => ⟨true, r, ?_⟩⟩
    refine iteT ?_
    exact q _ G' H' s rfl
/-- a < b < c -/
theorem pr_chain {op op' : CmpOp} {k l : Bool} (ha : PR X B es a Ra) (hb : PR X B es b Rb) (hc : PR X B es c Rc) (h : Cmp X op Ra Rb k) (h' : Cmp X op' Rb Rc l) (hm : lastMarks [op, op'] [b, c] = false := by with_unfolding_all rfl) :
    PR X B es (.Compare a [op, op'] [b, c] pos) (Rp.bl.at (k && l)) := by
  obtain ⟨_, o1, f1⟩ := h
  obtain ⟨_, o2, f2⟩ := h'
  refine pr_of (pe_chain o1 o2 ha hb hc hm) fun σ G H Q E q => ⟨G, E, fun x G1 H1 s1 r1 => ⟨G1, E.step s1, fun y G2 H2 s2 r2 => f1 G2 H2 x y _ s2.gh (Ra.mono s2 r1) r2 fun z G3 H3 s3 r3 => ⟨k, r3, ?_⟩⟩⟩
  have s := (s1.trans s2).trans s3
  cases k with
  | true =>
    refine iteT ?_
    exact ⟨G3, E.step s, fun u G4 H4 s4 r4 => f2 G4 H4 y u _ s4.gh (Rb.mono (s3.trans s4) r2) r4 fun w G5 H5 s5 r5 => q w G5 H5 ((s.trans s4).trans s5) (by simpa using r5)⟩
  | false =>
    refine iteF ?_
    exact q _ G3 H3 s rfl

theorem pb_chain {op op' : CmpOp} {k l : Bool} (ha : PR X B es a Ra) (hb : PR X B es b Rb) (hc : PR X B es c Rc) (h : Cmp X op Ra Rb k) (h' : Cmp X op' Rb Rc l) (hm : lastMarks [op, op'] [b, c] = false := by with_unfolding_all rfl) :
    PB X B es (.Compare a [op, op'] [b, c] pos) (k && l) := by
  obtain ⟨_, o1, f1⟩ := h
  obtain ⟨_, o2, f2⟩ := h'
  refine pt_imp (pt_chain o1 o2 ha hb hc hm) fun σ H Q ⟨G, E, q⟩ => ⟨G, E, fun x G1 H1 s1 r1 => ⟨G1, E.step s1, fun y G2 H2 s2 r2 => f1 G2 H2 x y _ s2.gh (Ra.mono s2 r1) r2 fun z G3 H3 s3 r3 => ⟨k, r3, ?_⟩⟩⟩
  have s := (s1.trans s2).trans s3
  cases k with
  | true =>
    refine iteT ?_
    exact ⟨G3, E.step s, fun u G4 H4 s4 r4 => f2 G4 H4 y u _ s4.gh (Rb.mono (s3.trans s4) r2) r4 fun w G5 H5 s5 r5 => ⟨l, r5, by simpa using q G5 H5 ((s.trans s4).trans s5)⟩⟩
  | false =>
    refine iteF ?_
    exact ⟨false, rfl, q G3 H3 s⟩

/-! tests -/
theorem pb_val {k : Bool} (h : PR X B es e (Rp.bl.at k)) (he : ∀ whole, isTrue e X.env whole = (do let v ← whole; standAt e.pos; holding [v] (truthy v)) := by intro _; rfl) : PB X B es e k :=
  pt_imp (pt_val h he) fun _ _ _ ⟨G, E, q⟩ => ⟨G, E, fun v G' H' s r => ⟨k, r, q G' H' s⟩⟩
theorem pb_not {k : Bool} (h : PB X B es a k) : PB X B es (.UnaryOp .Not a pos) (!k) :=
  pt_imp (pt_not h) fun _ _ _ ⟨G, E, q⟩ => ⟨G, E, fun G' H' s => q G' H' s⟩
theorem pb_w {k : Bool} (h : PBw X B es e k) : PB X B es e k := h.pt
theorem pbw_and1 {k : Bool} (h : PB X B es a k) : PBw X B es (.BoolOp .And [a] pos) k := pw_and1 h
theorem pbw_or1 {k : Bool} (h : PB X B es a k) : PBw X B es (.BoolOp .Or [a] pos) k := pw_or1 h
theorem pbw_and {k l : Bool} {rest : List Expr} (h : PB X B es a k) (h2 : k = true → PBw X B es (.BoolOp .And (b :: rest) pos) l) : PBw X B es (.BoolOp .And (a :: b :: rest) pos) (k && l) := by
  cases k with
  | true =>
    refine pw_imp (pw_and h (h2 rfl)) fun σ H Q ⟨G, E, q⟩ => ⟨G, E, fun G' H' s => ?_⟩
    refine iteT ?_
    exact ⟨G', E.step s, fun G2 H2 s2 => by simpa using q G2 H2 (s.trans s2)⟩
  | false =>
    refine pw_imp (pw_and h pw_never) fun σ H Q ⟨G, E, q⟩ => ⟨G, E, fun G' H' s => ?_⟩
    refine iteF ?_
    exact q G' H' s
theorem pbw_or {k l : Bool} {rest : List Expr} (h : PB X B es a k) (h2 : k = false → PBw X B es (.BoolOp .Or (b :: rest) pos) l) : PBw X B es (.BoolOp .Or (a :: b :: rest) pos) (k || l) := by
  cases k with
  | false =>
    refine pw_imp (pw_or h (h2 rfl)) fun σ H Q ⟨G, E, q⟩ => ⟨G, E, fun G' H' s => ?_⟩
    refine iteF ?_
    exact ⟨G', E.step s, fun G2 H2 s2 => by simpa using q G2 H2 (s.trans s2)⟩
  | true =>
    refine pw_imp (pw_or h pw_never) fun σ H Q ⟨G, E, q⟩ => ⟨G, E, fun G' H' s => ?_⟩
    refine iteT ?_
    exact q G' H' s
theorem pb_eq {k l : Bool} (h : PB X B es e k) (hk : k = l) : PB X B es e l := hk ▸ h
end
end Rw

/-! RwC: arguments, calls, displays, subscripts, slices, walks, comprehensions on abstract slots -/
namespace Rw
open PySem L2
section
variable {X : Cx} {B : Bs} {es : List Sl} {e a b c : Expr} {R Ra Rb Rc : Rl} {pos : Pos} {as : List Expr} {Rs : List Rl}
/-! arguments -/
theorem al_mono {K : PySem.W.Frag} {G H G' H' : Hp} (s : Stp G H G' H') {vs : List V} {Rs : List Rl} (h : Als K G H vs Rs) : Als K G' H' vs Rs := pmono (fun _ R q => R.mono s q) h
theorem par_nil : PAr X B es [] [] := pa_imp pa_nil fun σ H Q ⟨G, E, q⟩ => q [] G H (Stp.refl E.same) .nil
theorem par_cons (ha : PR X B es a R) (hr : PAr X B es as Rs) (hs : starEach (a :: as) X.env = (false, eval a X.env) :: starEach as X.env := by rfl) : PAr X B es (a :: as) (R :: Rs) :=
  pa_imp (pa_cons ha hr hs) fun σ H Q ⟨G, E, q⟩ => ⟨G, E, fun v G1 H1 s1 r1 => ⟨G1, E.step s1, fun vs G2 H2 s2 r2 => q (v :: vs) G2 H2 (s1.trans s2) (.cons (R.mono s2 r1) r2)⟩⟩
theorem al1 {K : PySem.W.Frag} {G H : Hp} {vs : List V} (h : Als K G H vs [R]) : ∃ v, vs = [v] ∧ R.r K G H v := by
  cases h with
  | cons h t => cases t; exact ⟨_, rfl, h⟩
theorem al2 {K : PySem.W.Frag} {G H : Hp} {vs : List V} (h : Als K G H vs [Ra, Rb]) : ∃ v w, vs = [v, w] ∧ Ra.r K G H v ∧ Rb.r K G H w := by
  cases h with
  | cons h t =>
    obtain ⟨w, rfl, q⟩ := al1 t
    exact ⟨_, _, rfl, h, q⟩
theorem al3 {K : PySem.W.Frag} {G H : Hp} {vs : List V} (h : Als K G H vs [Ra, Rb, Rc]) : ∃ v w u, vs = [v, w, u] ∧ Ra.r K G H v ∧ Rb.r K G H w ∧ Rc.r K G H u := by
  cases h with
  | cons h t =>
    obtain ⟨w, u, rfl, q, q2⟩ := al2 t
    exact ⟨_, _, _, rfl, h, q, q2⟩

/-! built-in functions, types -/
def Cb (X : Cx) (f : Value) (Rs : List Rl) (Rc : Rl) : Prop := ∃ r, CallR X f r ∧ ∀ (G H : Hp) (vs : List V) (Q : VK), Same G H → Als X.K G H vs Rs → (∀ z G' H', Stp G H G' H' → Rc.r X.K G' H' z → Q z H') → r vs H Q
theorem pr_callB {x : Str} {p : Pos} {id : String} (ha : PAr X B es (e :: as) Rs) (hm : X.mg x = none) (h : Cb X (.builtin id) Rs Rc) (hg : Gl X x := by rfl) (hv : bootBuiltins x = some (.builtin id) := by decide +kernel) (hn : x ≠ "__name__" := by decide) (hdb : (x == ("__debug__" : Str)) = false := by decide)
    (he : starEach (e :: as) X.env = (false, eval e X.env) :: starEach as X.env := by rfl) (hpl : (backTo pos (starEach as X.env)).any (·.1) = false := by rfl) : PR X B es (.Call (.Name x p) (e :: as) [] pos) Rc :=
  let ⟨_, hc, h2⟩ := h
  pr_of (pe_callB hc hg hm hv ha hn hdb he hpl) fun σ G H Q E q => ⟨G, E, fun vs G1 H1 s1 r1 => h2 G1 H1 vs Q s1.gh r1 fun z G2 H2 s2 r2 => q z G2 H2 (s1.trans s2) r2⟩
theorem pr_callT {x : Str} {p : Pos} {T : String} (ha : PAr X B es (e :: as) Rs) (hm : X.mg x = none) (h : Cb X (.type T) Rs Rc) (hg : Gl X x := by rfl) (hv : bootBuiltins x = some (.type T) := by decide +kernel) (hn : x ≠ "__name__" := by decide) (hdb : (x == ("__debug__" : Str)) = false := by decide)
    (he : starEach (e :: as) X.env = (false, eval e X.env) :: starEach as X.env := by rfl) (hpl : (backTo pos (starEach as X.env)).any (·.1) = false := by rfl) : PR X B es (.Call (.Name x p) (e :: as) [] pos) Rc :=
  let ⟨_, hc, h2⟩ := h
  pr_of (pe_callTy hc hg hm hv ha hn hdb he hpl) fun σ G H Q E q => ⟨G, E, fun vs G1 H1 s1 r1 => h2 G1 H1 vs Q s1.gh r1 fun z G2 H2 s2 r2 => q z G2 H2 (s1.trans s2) r2⟩
theorem cb_lenL {α : Type} {A : Rp α} {xs : List α} : Cb X (.builtin "len") [rL A xs] (Rp.int.at xs.length) := ⟨_, call_len_seq, fun G H vs Q s h q => by
  obtain ⟨v, rfl, p, ws, e, h1, r, z⟩ := al1 h
  exact ⟨p, ws, by rw [e], .inl (SqL.of h1), q _ G H (Stp.refl s) (by rw [r.length]; rfl)⟩⟩
theorem cb_lenQ {α : Type} {A : Rp α} {xs : List α} : Cb X (.builtin "len") [rLq A xs] (Rp.int.at xs.length) := ⟨_, call_len_seq, fun G H vs Q s h q => by
  obtain ⟨v, rfl, p, ws, e, h1, r, z⟩ := al1 h
  exact ⟨p, ws, by rw [e], .inl h1, q _ G H (Stp.refl s) (by rw [r.length]; rfl)⟩⟩
theorem cb_lenT {α : Type} {A : Rp α} {xs : List α} : Cb X (.builtin "len") [A.tup.at xs] (Rp.int.at xs.length) := ⟨_, call_len_seq, fun G H vs Q s h q => by
  obtain ⟨v, rfl, p, ws, e, h1, r, z⟩ := al1 h
  exact ⟨p, ws, by rw [e], .inr (same_t s h1), q _ G H (Stp.refl s) (by rw [r.length]; rfl)⟩⟩
theorem cb_lenP {α β : Type} {A : Rp α} {C : Rp β} {x : α × β} : Cb X (.builtin "len") [(A.pair C).at x] (Rp.int.at 2) := ⟨_, call_len_seq, fun G H vs Q s h q => by
  obtain ⟨v, rfl, p, u, w, e, h1, _⟩ := al1 h
  exact ⟨p, [u, w], by rw [e], .inr (same_t s h1), q _ G H (Stp.refl s) rfl⟩⟩
theorem cb_lenS {x : Str} : Cb X (.builtin "len") [Rp.str.at x] (Rp.int.at x.length) := ⟨_, call_len_str, fun G H vs Q s h q => by
  obtain ⟨v, rfl, e, z⟩ := al1 h
  exact ⟨x, by rw [e], Nat.le_trans z.1 strMax_le, q _ G H (Stp.refl s) rfl⟩⟩
theorem cb_all (hc : X.calm = true) {xs : List Bool} : Cb X (.builtin "all") [rL Rp.bl xs] (Rp.bl.at (xs.all id)) := ⟨_, cr_all hc, fun G H vs Q s h q => by
  obtain ⟨v, rfl, p, ws, e, h1, r, z⟩ := al1 h
  have := bls_of r
  subst this
  exact ⟨p, xs, by rw [e], SqL.of h1, q _ G H (Stp.refl s) rfl⟩⟩
theorem cb_sum (hc : X.calm = true) {xs : List Int} : Cb X (.builtin "sum") [rL Rp.int xs] (Rp.int.at xs.sum) := ⟨_, cr_sum hc, fun G H vs Q s h q => by
  obtain ⟨v, rfl, p, ws, e, h1, r, z⟩ := al1 h
  have := ints_of r
  subst this
  exact ⟨p, xs, by rw [e], SqL.of h1, q _ G H (Stp.refl s) rfl⟩⟩
theorem cb_max (hc : X.calm = true) {xs : List Int} {m : Int} (hm : m ∈ xs) (hle : ∀ y ∈ xs, y ≤ m) : Cb X (.builtin "max") [rL Rp.int xs] (Rp.int.at m) := ⟨_, cr_max hc, fun G H vs Q s h q => by
  obtain ⟨v, rfl, p, ws, e, h1, r, z⟩ := al1 h
  have := ints_of r
  subst this
  refine ⟨p, xs, by rw [e], SqL.of h1, List.length_pos_of_mem hm, fun m' hm' hle' => ?_⟩
  have : m' = m := Int.le_antisymm (hle _ hm') (hle' _ hm)
  exact q _ G H (Stp.refl s) (by rw [this]; rfl)⟩
theorem cb_min2 (hc : X.calm = true) {i j : Int} : Cb X (.builtin "min") [Rp.int.at i, Rp.int.at j] (Rp.int.at (if j < i then j else i)) := ⟨_, call_min2 hc, fun G H vs Q s h q => by
  obtain ⟨v, w, rfl, e, e2⟩ := al2 h
  exact ⟨i, j, by rw [show v = .int i from e, show w = .int j from e2], q _ G H (Stp.refl s) rfl⟩⟩
/-- a new list that a slot or a display takes: laid, and let stand -/
theorem lst_new {α : Type} {A : Rp α} {xs : List α} {vs : List V} {K : PySem.W.Frag} {G H : Hp} (s : Same G H) {p : Addr} (hp : H p = none) (r : Paired (A.rel K G) vs xs) (z : xs.length ≤ sizeLine) : (A.lst.at xs).r K (upd G p (.lst vs)) (upd H p (.lst vs)) (.ref p) :=
  ⟨p, vs, rfl, upd_same, pmono (fun _ _ => A.mono (same_upd _ (s.free hp))) r, z⟩
theorem tup_new {α : Type} {A : Rp α} {xs : List α} {vs : List V} {K : PySem.W.Frag} {G H : Hp} (s : Same G H) {p : Addr} (hp : H p = none) (r : Paired (A.rel K G) vs xs) (z : xs.length ≤ sizeLine) : (A.tup.at xs).r K (upd G p (.tup vs)) (upd H p (.tup vs)) (.ref p) :=
  ⟨p, vs, rfl, SqT.of upd_same, pmono (fun _ _ => A.mono (same_upd _ (s.free hp))) r, z⟩
theorem cb_tuple {α : Type} {A : Rp α} {xs : List α} : Cb X (.type "tuple") [rL A xs] (A.tup.at xs) := ⟨_, call_tuple_of, fun G H vs Q s h q => by
  obtain ⟨v, rfl, p, ws, e, h1, r, z⟩ := al1 h
  exact ⟨p, ws, by rw [e], .inl ⟨SqL.of h1, fun l hl => q _ _ _ (Stp.new s hl _) (tup_new s hl r z)⟩⟩⟩
theorem cb_listL {α : Type} {A : Rp α} {xs : List α} : Cb X (.type "list") [rL A xs] (A.lst.at xs) := ⟨_, call_list_of, fun G H vs Q s h q => by
  obtain ⟨v, rfl, p, ws, e, h1, r, z⟩ := al1 h
  exact ⟨p, ws, by rw [e], .inl (SqL.of h1), fun l hl => q _ _ _ (Stp.new s hl _) (lst_new s hl r z)⟩⟩
theorem cb_listT {α : Type} {A : Rp α} {xs : List α} : Cb X (.type "list") [A.tup.at xs] (A.lst.at xs) := ⟨_, call_list_of, fun G H vs Q s h q => by
  obtain ⟨v, rfl, p, ws, e, h1, r, z⟩ := al1 h
  exact ⟨p, ws, by rw [e], .inr (same_t s h1), fun l hl => q _ _ _ (Stp.new s hl _) (lst_new s hl r z)⟩⟩
theorem keys_p {α : Type} {K : PySem.W.Frag} {G : Hp} {A : Rp α} {ds : List (Key × V)} {xs : List (Str × α)} (h : Paired (fun d x => d.1 = Sum.inr x.1 ∧ A.rel K G d.2 x.2 ∧ SOk x.1) ds xs) :
    ds.map (fun kv => kV kv.1) = (xs.map (·.1)).map V.str ∧ Paired (Rp.str.rel K G) ((xs.map (·.1)).map V.str) (xs.map (·.1)) := by
  induction h with
  | nil => exact ⟨rfl, .nil⟩
  | cons g t ih => exact ⟨by rw [List.map_cons, List.map_cons, List.map_cons, ih.1, g.1]; rfl, .cons ⟨rfl, g.2.2⟩ ih.2⟩
/-- the keys of a dict as a list -/
theorem cb_listD (hc : X.calm = true) {α : Type} {A : Rp α} {xs : List (Str × α)} : Cb X (.type "list") [rD A xs] (Rp.str.lst.at (xs.map (·.1))) := ⟨_, call_listD hc, fun G H vs Q s h q => by
  obtain ⟨v, rfl, p, ds, e, h1, r, z⟩ := al1 h
  refine ⟨p, ds, by rw [e], h1, fun l hl => ?_⟩
  obtain ⟨e2, r2⟩ := keys_p r
  rw [e2]
  exact q _ _ _ (Stp.new s hl _) (lst_new s hl r2 (by rw [List.length_map]; exact z))⟩
theorem cb_str {i : Int} (h : i.natAbs.log2 < 1920) (h2 : SOk (toString i : Str)) : Cb X (.type "str") [Rp.int.at i] (Rp.str.at (toString i : Str)) := ⟨_, call_str_int, fun G H vs Q s hh q => by
  obtain ⟨v, rfl, e⟩ := al1 hh
  exact ⟨i, by rw [show v = .int i from e], h, q _ G H (Stp.refl s) ⟨rfl, h2⟩⟩⟩
/-- isinstance, a text or a tuple that is asked -/
theorem pr_ty {x : Str} {n : String} (hm : X.mg x = none) (hv : bootBuiltins x = some (.type n) := by decide +kernel) (hg : Gl X x := by rfl) (hn : x ≠ "__name__" := by decide) (hd : (x == ("__debug__" : Str)) = false := by decide) : PR X B es (.Name x pos) ⟨fun _ _ _ v => v = .ty n, fun _ h => h⟩ :=
  pr_of (pe_bltn hg hm hv (v := .ty n) rfl hn hd) fun σ G H Q E q => q _ G H (Stp.refl E.same) rfl
abbrev rTy (n : String) : Rl := ⟨fun _ _ _ v => v = .ty n, fun _ h => h⟩
theorem cb_isi {n : String} {t : String} {k : Bool} (h : ∀ G H v, Same G H → R.r X.K G H v → TyX X.K H v (.type t)) (hk : kitB t n = some k) : Cb X (.builtin "isinstance") [R, rTy n] (Rp.bl.at k) := ⟨_, call_isi, fun G H vs Q s hh q => by
  obtain ⟨v, w, rfl, r, e⟩ := al2 hh
  exact ⟨v, w, .type t, .type n, k, rfl, by rw [show w = .ty n from e]; exact .ty n, h G H v s r, kit_ty hk, q _ G H (Stp.refl s) rfl⟩⟩
theorem ty_str {x : Str} {K : PySem.W.Frag} {G H : Hp} {v : V} (r : (Rp.str.at x).r K G H v) : TyX K H v (.type "str") := by
  rw [r.1]; exact .base (.str x)
theorem ty_int {x : Int} {K : PySem.W.Frag} {G H : Hp} {v : V} (r : (Rp.int.at x).r K G H v) : TyX K H v (.type "int") := by
  rw [show v = .int x from r]; exact .base (.int x)
theorem ty_sqt {K : PySem.W.Frag} {H : Hp} {p : Addr} {vs : List V} (h : SqT K H p vs) : TyX K H (.ref p) (.type "tuple") := by
  rcases h with (h | ⟨o, h⟩) | ⟨o, its, n, h1, h2, _⟩
  · exact .base (.tup h)
  · exact .fTuple h
  · exact .kTuple h1 h2
theorem ty_pair {α β : Type} {A : Rp α} {C : Rp β} {x : α × β} {K : PySem.W.Frag} {G H : Hp} {v : V} (s : Same G H) (r : ((A.pair C).at x).r K G H v) : TyX K H v (.type "tuple") := by
  obtain ⟨p, u, w, rfl, h, _⟩ := r
  exact ty_sqt (same_t s h)
theorem ty_tup {α : Type} {A : Rp α} {x : List α} {K : PySem.W.Frag} {G H : Hp} {v : V} (s : Same G H) (r : (A.tup.at x).r K G H v) : TyX K H v (.type "tuple") := by
  obtain ⟨p, u, rfl, h, _⟩ := r
  exact ty_sqt (same_t s h)

/-! displays -/
/-- arguments that all stand in one representation -/
theorem als_lst {α : Type} {A : Rp α} {K : PySem.W.Frag} {G H : Hp} : ∀ {xs : List α} {vs : List V}, Als K G H vs (xs.map A.at) → Paired (A.rel K G) vs xs
  | [], _, h => by cases h; exact .nil
  | _ :: _, _, h => by cases h with | cons h t => exact .cons h (als_lst t)
theorem pr_lst {α : Type} (A : Rp α) (xs : List α) (h : PAr X B es as (xs.map A.at)) (z : xs.length ≤ sizeLine := by decide) : PR X B es (.List as pos) (A.lst.at xs) :=
  pr_of (pe_lst h) fun σ G H Q E q => ⟨G, E, fun vs G1 H1 s1 r1 => by
    have r := als_lst r1
    exact ⟨by rw [r.length]; exact z, fun p hp => q _ _ _ (s1.trans (Stp.new s1.gh hp _)) (lst_new s1.gh hp r z)⟩⟩
theorem pr_tup {α : Type} (A : Rp α) (xs : List α) {k} (h : PAr X B es as (xs.map A.at)) (z : xs.length ≤ sizeLine := by decide) : PR X B es (.Tuple as k pos) (A.tup.at xs) :=
  pr_of (pe_tup h) fun σ G H Q E q => ⟨G, E, fun vs G1 H1 s1 r1 => by
    have r := als_lst r1
    exact ⟨by rw [r.length]; exact z, fun p hp => q _ _ _ (s1.trans (Stp.new s1.gh hp _)) (tup_new s1.gh hp r z)⟩⟩
theorem pr_pair {α β : Type} {A : Rp α} {C : Rp β} {x : α} {y : β} {k} (ha : PR X B es a (A.at x)) (hb : PR X B es b (C.at y)) (hs : starEach (a :: [b]) X.env = (false, eval a X.env) :: starEach [b] X.env := by rfl) (hs2 : starEach (b :: []) X.env = (false, eval b X.env) :: starEach [] X.env := by rfl) : PR X B es (.Tuple [a, b] k pos) ((A.pair C).at (x, y)) :=
  pr_of (pe_tup (par_cons ha (par_cons hb par_nil hs2) hs)) fun σ G H Q E q => ⟨G, E, fun vs G1 H1 s1 r1 => by
    obtain ⟨v, w, rfl, r, r2⟩ := al2 r1
    exact ⟨by show 2 ≤ sizeLine; decide, fun p hp => q _ _ _ (s1.trans (Stp.new s1.gh hp _)) ⟨p, v, w, rfl, SqT.of upd_same, A.mono (same_upd _ (s1.gh.free hp)) r, C.mono (same_upd _ (s1.gh.free hp)) r2⟩⟩⟩

/-! subscripts -/
def Ix (X : Cx) (Ra Rb Rc : Rl) : Prop := ∃ r, IxR X r ∧ Op2 X.K r Ra Rb Rc
theorem pr_ix (ha : PR X B es a Ra) (hb : PR X B es b Rb) (h : Ix X Ra Rb Rc) (hs : PlainIx b := by exact fun _ _ => rfl) : PR X B es (.Subscript a b pos) Rc :=
  let ⟨_, ho, h2⟩ := h; pr_of (pe_ix ho ha hb hs) fun _ _ _ _ E q => two (ta := tG X.K B es Ra) (tb := tG X.K B es Rb) h2 E q
theorem atI_p {α : Type} {F : V → α → Prop} {vs : List V} {xs : List α} (h : Paired F vs xs) {i : Int} {x : α} (e : atI xs i = some x) : ∃ v, atI vs i = some v ∧ F v x := by
  unfold atI at e ⊢
  rw [h.length]
  obtain ⟨j, h1, h2⟩ := Option.bind_eq_some_iff.mp e
  obtain ⟨v, h3, h4⟩ := pget h h2
  exact ⟨v, Option.bind_eq_some_iff.mpr ⟨j, h1, h3⟩, h4⟩
theorem ix_L {α : Type} {A : Rp α} {xs : List α} {i : Int} {x : α} (h : atI xs i = some x) : Ix X (rL A xs) (Rp.int.at i) (A.at x) := ⟨_, ix_list, fun G H u v Q s ⟨p, vs, e, h1, r, z⟩ hy q => by
  obtain ⟨w, hw, rw⟩ := atI_p r h
  exact ⟨p, vs, i, w, e, hy, SqL.of h1, hw, q _ G H (Stp.refl s) rw⟩⟩
theorem ix_Q {α : Type} {A : Rp α} {xs : List α} {i : Int} {x : α} (h : atI xs i = some x) : Ix X (rLq A xs) (Rp.int.at i) (A.at x) := ⟨_, ix_list, fun G H u v Q s ⟨p, vs, e, h1, r, z⟩ hy q => by
  obtain ⟨w, hw, rw⟩ := atI_p r h
  exact ⟨p, vs, i, w, e, hy, h1, hw, q _ G H (Stp.refl s) rw⟩⟩
theorem ix_T {α : Type} {A : Rp α} {xs : List α} {i : Int} {x : α} (h : atI xs i = some x) : Ix X (A.tup.at xs) (Rp.int.at i) (A.at x) := ⟨_, ix_tup, fun G H u v Q s ⟨p, vs, e, h1, r, z⟩ hy q => by
  obtain ⟨w, hw, rw⟩ := atI_p r h
  exact ⟨p, vs, i, w, e, hy, same_t s h1, hw, q _ G H (Stp.refl s) rw⟩⟩
theorem ix_P0 {α β : Type} {A : Rp α} {C : Rp β} {x : α × β} : Ix X ((A.pair C).at x) (Rp.int.at 0) (A.at x.1) := ⟨_, ix_tup, fun G H u v Q s ⟨p, u1, w1, e, h1, r1, r2⟩ hy q => ⟨p, [u1, w1], 0, u1, e, hy, same_t s h1, rfl, q _ G H (Stp.refl s) r1⟩⟩
theorem ix_P1 {α β : Type} {A : Rp α} {C : Rp β} {x : α × β} : Ix X ((A.pair C).at x) (Rp.int.at 1) (C.at x.2) := ⟨_, ix_tup, fun G H u v Q s ⟨p, u1, w1, e, h1, r1, r2⟩ hy q => ⟨p, [u1, w1], 1, w1, e, hy, same_t s h1, rfl, q _ G H (Stp.refl s) r2⟩⟩
theorem atI_mem {α : Type} {l : List α} {i : Int} {x : α} (h : atI l i = some x) : x ∈ l := by
  unfold atI at h
  obtain ⟨j, _, hj⟩ := Option.bind_eq_some_iff.mp h
  exact List.mem_of_getElem? hj
theorem ix_S {x : Str} {i : Int} {c : Nat} (h : atI x.cps.toList i = some c) : Ix X (Rp.str.at x) (Rp.int.at i) (Rp.str.at ⟨#[c]⟩) := ⟨_, ix_str, fun G H u v Q s ⟨e, z⟩ hy q => ⟨x, i, c, e, hy, Nat.le_trans z.1 strMax_le, h, q _ G H (Stp.refl s) ⟨rfl, strOk_sign z.2 (atI_mem h)⟩⟩⟩
/-! dicts with text keys -/
section
variable {κ α : Type} [DecidableEq κ]
theorem dget_nil {k : κ} : dget ([] : List (κ × α)) k = none := rfl
theorem dget_cons (p : κ × α) (r : List (κ × α)) (k : κ) : dget (p :: r) k = if p.1 = k then some p.2 else dget r k := by
  unfold dget
  rw [List.find?_cons]
  by_cases h : p.1 = k
  · simp [h]
  · simp [h]
theorem dhas_cons (p : κ × α) (r : List (κ × α)) (k : κ) : dhas (p :: r) k = (decide (p.1 = k) || dhas r k) := rfl
theorem dget_isSome (kvs : List (κ × α)) (k : κ) : (dget kvs k).isSome = dhas kvs k := by
  induction kvs with
  | nil => rfl
  | cons p r ih =>
    rw [dget_cons, dhas_cons]
    by_cases h : p.1 = k
    · simp [h]
    · simp [h, ih]
theorem dput_len (kvs : List (κ × α)) (k : κ) (v : α) : (dput kvs k v).length ≤ kvs.length + 1 := by
  unfold dput
  split <;> simp
end
theorem dget_p {α : Type} {K : PySem.W.Frag} {G : Hp} {A : Rp α} {ds : List (Key × V)} {xs : List (Str × α)} (h : Paired (fun d x => d.1 = Sum.inr x.1 ∧ A.rel K G d.2 x.2 ∧ SOk x.1) ds xs) (k : Str) :
    (∀ a, dget xs k = some a → ∃ v, valV ds (Sum.inr k) = some v ∧ A.rel K G v a) ∧ (dget xs k = none → valV ds (Sum.inr k) = none) := by
  induction h with
  | nil => exact ⟨fun a e => (by cases e), fun _ => rfl⟩
  | @cons d x _ _ h t ih =>
    obtain ⟨h1, h2, h3⟩ := h
    rw [dget_cons]
    by_cases e : x.1 = k
    · rw [if_pos e, valV_pos (by rw [h1, e])]
      exact ⟨fun a q => by cases q; exact ⟨_, rfl, h2⟩, fun q => by cases q⟩
    · rw [if_neg e, valV_neg (by rw [h1]; exact fun q => e (Sum.inr.inj q))]
      exact ih
theorem dany_p {α : Type} {K : PySem.W.Frag} {G : Hp} {A : Rp α} {ds : List (Key × V)} {xs : List (Str × α)} (h : Paired (fun d x => d.1 = Sum.inr x.1 ∧ A.rel K G d.2 x.2 ∧ SOk x.1) ds xs) (k : Str) :
    (valV ds (Sum.inr k)).isSome = dhas xs k := by
  rw [← dget_isSome]
  obtain ⟨h1, h2⟩ := dget_p h k
  cases e : dget xs k with
  | none => rw [h2 e]; rfl
  | some a => obtain ⟨v, h3, _⟩ := h1 a e; rw [h3]; rfl
theorem dput_p {α : Type} {K : PySem.W.Frag} {G : Hp} {A : Rp α} {ds : List (Key × V)} {xs : List (Str × α)} (h : Paired (fun d x => d.1 = Sum.inr x.1 ∧ A.rel K G d.2 x.2 ∧ SOk x.1) ds xs) {k : Str} {v : V} {a : α} (r : A.rel K G v a) (hk : SOk k) :
    Paired (fun d x => d.1 = Sum.inr x.1 ∧ A.rel K G d.2 x.2 ∧ SOk x.1) (putK ds (Sum.inr k) v) (dput xs k a) := by
  have e : (ds.any fun kv => decide (kv.1 = (Sum.inr k : Key))) = dhas xs k := by rw [valV_any]; exact dany_p h k
  unfold putK dput
  rw [e]
  by_cases c : dhas xs k = true
  · rw [if_pos c, if_pos c]
    clear e c
    induction h with
    | nil => exact .nil
    | @cons d x _ _ h t ih =>
      obtain ⟨h1, h2, h3⟩ := h
      refine .cons ?_ ih
      show (if d.1 = Sum.inr k then (d.1, v) else d).1 = Sum.inr (if x.1 = k then (x.1, a) else x).1 ∧ A.rel K G (if d.1 = Sum.inr k then (d.1, v) else d).2 (if x.1 = k then (x.1, a) else x).2 ∧ SOk (if x.1 = k then (x.1, a) else x).1
      by_cases e : x.1 = k
      · rw [if_pos (by rw [h1, e]), if_pos e]
        exact ⟨h1, r, h3⟩
      · rw [if_neg (by rw [h1]; exact fun q => e (Sum.inr.inj q)), if_neg e]
        exact ⟨h1, h2, h3⟩
  · rw [if_neg c, if_neg c]
    exact h.snoc ⟨rfl, r, hk⟩
theorem pr_dget {α : Type} {A : Rp α} {xs : List (Str × α)} {k : Str} {v : α} (hu : X.A.units + 1 < cLine) (ha : PR X B es a (rD A xs)) (hb : PR X B es b (Rp.str.at k)) (h : dget xs k = some v) (hs : NoSl b := by exact fun _ _ => rfl) : PR X B es (.Subscript a b pos) (A.at v) :=
  pr_of (pe_dget hu ha hb hs) fun σ G H Q E q => ⟨G, E, fun x G1 H1 s1 r1 => ⟨G1, E.step s1, fun y G2 H2 s2 ⟨e2, _⟩ => by
    obtain ⟨p, ds, e, h1, r, z⟩ := (rD A xs).mono s2 r1
    obtain ⟨w, hw, rw⟩ := (dget_p r k).1 v h
    exact ⟨p, w, e, .inl ⟨ds, .inr k, h1, e2, hw.symm⟩, q _ _ _ (s1.trans s2) rw⟩⟩⟩
theorem pr_din {α : Type} {A : Rp α} {xs : List (Str × α)} {k : Str} (hu : X.A.units + 1 < cLine) (ha : PR X B es a (Rp.str.at k)) (hb : PR X B es b (rD A xs)) (hm : behindInMarks .In b = false := by rfl) : PR X B es (.Compare a [.In] [b] pos) (Rp.bl.at (dhas xs k)) :=
  pr_of (pe_cmp (pc_din hu ha hb) hm) fun σ G H Q E q => ⟨G, E, fun x G1 H1 s1 ⟨e1, _⟩ => ⟨G1, E.step s1, fun y G2 H2 s2 ⟨p, ds, e, h1, r, z⟩ =>
    ⟨p, _, e, .inl ⟨ds, .inr k, h1, e1, rfl⟩, q _ _ _ (s1.trans s2) (by rw [dany_p r k]; rfl)⟩⟩⟩
theorem pb_din {α : Type} {A : Rp α} {xs : List (Str × α)} {k : Str} (hu : X.A.units + 1 < cLine) (ha : PR X B es a (Rp.str.at k)) (hb : PR X B es b (rD A xs)) (hm : behindInMarks .In b = false := by rfl) : PB X B es (.Compare a [.In] [b] pos) (dhas xs k) :=
  pt_imp (pt_cmp (pc_din hu ha hb) hm) fun σ H Q ⟨G, E, q⟩ => ⟨G, E, fun x G1 H1 s1 ⟨e1, _⟩ => ⟨G1, E.step s1, fun y G2 H2 s2 ⟨p, ds, e, h1, r, z⟩ =>
    ⟨p, _, e, .inl ⟨ds, .inr k, h1, e1, rfl⟩, _, rfl, by rw [dany_p r k]; exact q _ _ (s1.trans s2)⟩⟩⟩
theorem pb_dni {α : Type} {A : Rp α} {xs : List (Str × α)} {k : Str} (hu : X.A.units + 1 < cLine) (ha : PR X B es a (Rp.str.at k)) (hb : PR X B es b (rD A xs)) (hm : behindInMarks .NotIn b = false := by rfl) : PB X B es (.Compare a [.NotIn] [b] pos) (!dhas xs k) :=
  pt_imp (pt_cmp (pc_dnotin hu ha hb) hm) fun σ H Q ⟨G, E, q⟩ => ⟨G, E, fun x G1 H1 s1 ⟨e1, _⟩ => ⟨G1, E.step s1, fun y G2 H2 s2 ⟨p, ds, e, h1, r, z⟩ =>
    ⟨p, _, e, .inl ⟨ds, .inr k, h1, e1, rfl⟩, _, rfl, by rw [dany_p r k]; exact q _ _ (s1.trans s2)⟩⟩⟩
theorem pr_dni {α : Type} {A : Rp α} {xs : List (Str × α)} {k : Str} (hu : X.A.units + 1 < cLine) (ha : PR X B es a (Rp.str.at k)) (hb : PR X B es b (rD A xs)) (hm : behindInMarks .NotIn b = false := by rfl) : PR X B es (.Compare a [.NotIn] [b] pos) (Rp.bl.at (!dhas xs k)) :=
  pr_of (pe_cmp (pc_dnotin hu ha hb) hm) fun σ G H Q E q => ⟨G, E, fun x G1 H1 s1 ⟨e1, _⟩ => ⟨G1, E.step s1, fun y G2 H2 s2 ⟨p, ds, e, h1, r, z⟩ =>
    ⟨p, _, e, .inl ⟨ds, .inr k, h1, e1, rfl⟩, q _ _ _ (s1.trans s2) (by rw [dany_p r k]; rfl)⟩⟩⟩
/-! slices -/
theorem pr_slT {α : Type} {A : Rp α} {xs : List α} {lo hi : Option Expr} {l u : Option Int} {p2 : Pos} {tl tu : TO} (ha : PR X B es a (A.tup.at xs)) (hl : PO X lo tl) (hu : PO X hi tu)
    (kl : ∀ σ G H (Q : Option Int → Hp → Prop), EnvA X.K B es σ G H → (∀ G' H', Stp G H G' H' → Q l H') → tl σ H Q) (ku : ∀ σ G H (Q : Option Int → Hp → Prop), EnvA X.K B es σ G H → (∀ G' H', Stp G H G' H' → Q u H') → tu σ H Q)
    {ys : List α} (hy : ys = (xs.drop (HT.sIx xs.length 0 l)).take (HT.sIx xs.length xs.length u - HT.sIx xs.length 0 l)) : PR X B es (.Subscript a (.Slice lo hi none p2) pos) (A.tup.at ys) :=
  pr_of (pe_slice sl_tupA ha hl hu) fun σ G H Q E q => ⟨G, E, fun v G1 H1 s1 r1 => kl σ G1 H1 _ (E.step s1) fun G2 H2 s2 => ku σ G2 H2 _ (E.step (s1.trans s2)) fun G3 H3 s3 => by
    obtain ⟨p, vs, e, h1, r, z⟩ := (A.tup.at xs).mono (s2.trans s3) r1
    have s := (s1.trans s2).trans s3
    refine ⟨p, vs, e, same_t s3.gh h1, fun hw => ?_, fun _ l hl => ?_⟩
    · refine q _ G3 H3 s ?_
      have : ys = xs := by
        rw [r.length] at hw
        rw [hy, hw.1, hw.2]; simp
      rw [this]
      exact ⟨p, vs, rfl, h1, r, z⟩
    · refine q _ _ _ (s.trans (Stp.new s3.gh hl _)) (tup_new s3.gh hl ?_ ?_)
      · unfold cutV
        rw [r.length, hy]
        exact ptake _ (pdrop _ r)
      · rw [hy, List.length_take, List.length_drop]; omega⟩
theorem po_n : ∃ tl, PO X none tl ∧ ∀ σ G H (Q : Option Int → Hp → Prop), EnvA X.K B es σ G H → (∀ G' H', Stp G H G' H' → Q none H') → tl σ H Q :=
  ⟨_, po_none, fun σ G H Q E q => q G H (Stp.refl E.same)⟩
theorem po_s {i : Int} (h : PR X B es e (Rp.int.at i)) : ∃ tl, PO X (some e) tl ∧ ∀ σ G H (Q : Option Int → Hp → Prop), EnvA X.K B es σ G H → (∀ G' H', Stp G H G' H' → Q (some i) H') → tl σ H Q :=
  ⟨_, po_some h, fun σ G H Q E q => ⟨G, E, fun v G' H' s r => ⟨i, r, q G' H' s⟩⟩⟩
theorem pr_slice {α : Type} {A : Rp α} {xs : List α} {lo hi : Option Expr} {l u : Option Int} {p2 : Pos} (ha : PR X B es a (A.tup.at xs))
    (hl : ∃ tl, PO X lo tl ∧ ∀ σ G H (Q : Option Int → Hp → Prop), EnvA X.K B es σ G H → (∀ G' H', Stp G H G' H' → Q l H') → tl σ H Q) (hu : ∃ tl, PO X hi tl ∧ ∀ σ G H (Q : Option Int → Hp → Prop), EnvA X.K B es σ G H → (∀ G' H', Stp G H G' H' → Q u H') → tl σ H Q)
    {ys : List α} (hy : ys = (xs.drop (HT.sIx xs.length 0 l)).take (HT.sIx xs.length xs.length u - HT.sIx xs.length 0 l)) : PR X B es (.Subscript a (.Slice lo hi none p2) pos) (A.tup.at ys) :=
  let ⟨_, h1, k1⟩ := hl; let ⟨_, h2, k2⟩ := hu; pr_slT ha h1 h2 k1 k2 hy
end
end Rw

/-! RwD: what is walked, targets, comprehensions, statements on abstract slots -/
namespace Rw
open PySem L2

/-! ### bases -/
theorem Slots.base {K : PySem.W.Frag} {B B' : Bs} {es : List Sl} {σ : L2.St} {G H : Hp} {ps : List Addr} (h : Slots K B G H es σ ps) (hb : ∀ p ∈ ps, B'.H p = none) : Slots K B' G H es σ ps := by
  induction h with
  | nil => exact .nil
  | un _ ih => exact .un (ih hb)
  | dat h _ ih => exact .dat h (ih hb)
  | own h1 h2 h3 h4 _ ih => exact .own h1 h2 h3 (hb _ (by simp)) (ih fun q hq => hb q (by simp [hq]))
  | fam h1 h2 _ ih => exact .fam h1 (fun q hq => ⟨(h2 q hq).1, hb q (List.mem_append_left _ hq), (h2 q hq).2.2⟩) (ih fun q hq => hb q (List.mem_append_right _ hq))
def hideO (ps : List Addr) (H : Hp) : Hp := fun a => if a ∈ ps then none else H a
/-- a nearer base -/
structure Near (K : PySem.W.Frag) (B B' : Bs) : Prop where
  env : ∀ es σ G H, EnvA K B' es σ G H → EnvA K B es σ G H
  stp : ∀ G H, Stp B'.G B'.H G H → Stp B.G B.H G H
theorem EnvA.enter {K : PySem.W.Frag} {B : Bs} {es : List Sl} {σ : L2.St} {G H : Hp} (E : EnvA K B es σ G H) : ∃ B', B'.G = G ∧ EnvA K B' es σ G H ∧ Near K B B' := by
  obtain ⟨ps, h, n⟩ := E.sl
  have fr := h.free
  have hid : ∀ p ∈ ps, hideO ps H p = none := fun p hp => by unfold hideO; rw [if_pos hp]
  have conv : ∀ a, hideO ps H a = none → B.H a = none := fun a ha => by
    unfold hideO at ha
    by_cases hm : a ∈ ps
    · exact (fr a hm).2.1
    · rw [if_neg hm] at ha; exact E.st.hh.free ha
  have st : ∀ G' H', Stp G (hideO ps H) G' H' → Stp B.G B.H G' H' := fun G' H' s => by
    refine ⟨E.st.gg.trans s.gg, s.gh, fun b o e => ?_, fun a o e => ?_⟩
    · have hm : b ∉ ps := fun hm => by rw [(fr b hm).2.1] at e; cases e
      exact s.hh b o (by unfold hideO; rw [if_neg hm]; exact E.st.hh b o e)
    · rcases s.nw a o e with q | q
      · exact E.st.nw a o q
      · exact .inr (conv a q)
  refine ⟨⟨G, hideO ps H⟩, rfl, ⟨⟨Same.refl _, E.same, fun b o e => ?_, fun a o e => .inl e⟩, ps, h.base hid, n⟩, ⟨fun es' σ' G' H' E' => ?_, st⟩⟩
  · have e : (if b ∈ ps then none else H b) = some o := e
    split at e
    · cases e
    · exact e
  · obtain ⟨qs, h', n'⟩ := E'.sl
    exact ⟨st _ _ E'.st, qs, h'.base fun p hp => conv p (h'.free p hp).2.1, n'⟩

/-! ### what is walked -/
/-- J gives the items ys, one after the other, while G1's objects stand -/
structure AW {α : Type} (K : PySem.W.Frag) (J : It) (G1 : Hp) (A : Rp α) (ys : List α) : Prop where
  go : ∀ i G H, Same G1 G → Same G H → i < ys.length → J.go i H
  stop : ∀ G H, Same G1 G → Same G H → J.stop ys.length H
  yld : ∀ i G H x H', Same G1 G → Same G H → i < ys.length → J.yld i H x H' → ∃ G' y, ys[i]? = some y ∧ Stp G H G' H' ∧ A.rel K G' x y
def tPI {α : Type} (K : PySem.W.Frag) (B : Bs) (es : List Sl) (A : Rp α) (ys : List α) : TI := fun σ H R => ∃ G, EnvA K B es σ G H ∧ ∀ J G' H', Stp G H G' H' → AW K J G' A ys → R J H'
abbrev PIt {α : Type} (X : Cx) (B : Bs) (es : List Sl) (tg iter : Expr) (A : Rp α) (ys : List α) : Prop := PI X tg iter (tPI X.K B es A ys)
section
variable {X : Cx} {B : Bs} {es : List Sl} {tg e a b : Expr} {R : Rl} {pos : Pos}
theorem aw_of_walk {α : Type} {K : PySem.W.Frag} {J : It} {G1 : Hp} {A : Rp α} {ys : List α} {n : Nat} {P : Hp → Prop} {Y : Nat → Hp → V → Hp → Prop} (w : Walk J n P Y) (hn : n = ys.length) (hP : ∀ G H, Same G1 G → Same G H → P H)
    (hY : ∀ i G H x H', Same G1 G → Same G H → i < ys.length → Y i H x H' → ∃ G' y, ys[i]? = some y ∧ Stp G H G' H' ∧ A.rel K G' x y) : AW K J G1 A ys :=
  ⟨fun i G H s1 s2 hi => w.goes i H (hn ▸ hi) (hP G H s1 s2), fun G H s1 s2 => hn ▸ w.stops H (hP G H s1 s2), fun i G H x H' s1 s2 hi y => hY i G H x H' s1 s2 hi (w.yields i H x H' (hn ▸ hi) (hP G H s1 s2) y)⟩
theorem it_list {α : Type} {A : Rp α} {xs : List α} (h : PR X B es e (A.lst.at xs)) : PIt X B es tg e A xs :=
  pi_imp (pi_list h) fun σ H R ⟨G, E, q⟩ => ⟨G, E, fun v G1 H1 s1 ⟨p, vs, e, h1, r, z⟩ => ⟨p, e, ⟨vs, SqL.of (s1.gh _ _ h1)⟩, q _ G1 H1 s1 (aw_of_walk (walk_list (xs := vs)) r.length (fun G H a b => SqL.of (b _ _ (a _ _ h1)))
    fun i G2 H2 x H3 a b hi ⟨e3, y⟩ => by
      obtain ⟨d, hd, rd⟩ := pgetL r y
      exact ⟨G2, d, hd, by rw [e3]; exact Stp.refl b, A.mono a rd⟩)⟩⟩
theorem it_tup {α : Type} {A : Rp α} {xs : List α} (h : PR X B es e (A.tup.at xs)) : PIt X B es tg e A xs :=
  pi_imp (pi_tup h) fun σ H R ⟨G, E, q⟩ => ⟨G, E, fun v G1 H1 s1 ⟨p, vs, e, h1, r, z⟩ => ⟨p, e, ⟨vs, same_t s1.gh h1⟩, q _ G1 H1 s1 (aw_of_walk (walk_tup (xs := vs)) r.length (fun G H a b => same_t (a.trans b) h1)
    fun i G2 H2 x H3 a b hi ⟨e3, y⟩ => by
      obtain ⟨d, hd, rd⟩ := pgetL r y
      exact ⟨G2, d, hd, by rw [e3]; exact Stp.refl b, A.mono a rd⟩)⟩⟩
/-- reversed(t), t a tuple -/
theorem it_revT {α : Type} {A : Rp α} {xs : List α} {p : Pos} (h : PR X B es e (A.tup.at xs)) (hm : X.mg "reversed" = none) (hg : Gl X "reversed" := by rfl) (hs : starEach [e] X.env = (false, eval e X.env) :: starEach [] X.env := by rfl) : PIt X B es tg (.Call (.Name "reversed" p) [e] [] pos) A xs.reverse :=
  pi_imp (RT.pi_revA hg hm h hs) fun σ H R ⟨G, E, q⟩ => ⟨G, E, fun v G1 H1 s1 ⟨p, vs, e, h1, r, z⟩ => ⟨p, vs, e, .inr ⟨same_t s1.gh h1, q _ G1 H1 s1 ⟨fun i G2 H2 a b hi => by
      have hi : i < vs.length := by rw [r.length]; simpa using hi
      exact ⟨hi, vs, vs[vs.length - 1 - i]'(by omega), same_t (a.trans b) h1, by simp [show vs.length - 1 - i < vs.length by omega]⟩,
    fun G2 H2 a b => by show vs.length ≤ _; rw [r.length]; simp,
    fun i G2 H2 x H3 a b hi ⟨e3, y⟩ => by
      have hi : i < vs.length := by rw [r.length]; simpa using hi
      have y := y vs (same_t (a.trans b) h1)
      obtain ⟨d, hd, rd⟩ := pgetL r y
      refine ⟨G2, d, ?_, by rw [e3]; exact Stp.refl b, A.mono a rd⟩
      rw [List.getElem?_reverse (by rw [← r.length]; exact hi), ← r.length]
      exact hd⟩⟩⟩⟩
theorem it_str {x : Str} (h : PR X B es e (Rp.str.at x)) : PIt X B es tg e Rp.str (chars x) :=
  pi_imp (pi_str h) fun σ H R ⟨G, E, q⟩ => ⟨G, E, fun v G1 H1 s1 ⟨e, z⟩ => ⟨x, e, q _ G1 H1 s1 (aw_of_walk walk_str (by simp [chars]) (fun _ _ _ _ => trivial)
    fun i G2 H2 x' H3 a b hi ⟨e3, c, hc, e4⟩ => ⟨G2, ⟨#[c]⟩, by
      show (x.cps.toList.map _)[i]? = _
      rw [List.getElem?_map, Array.getElem?_toList, hc]; rfl, by rw [e3]; exact Stp.refl b, ⟨e4, strOk_sign z.2 (Array.mem_toList_iff.mpr (Array.mem_of_getElem? hc))⟩⟩)⟩⟩
theorem it_range {n : Int} {p : Pos} (h : PR X B es e (Rp.int.at n)) (h1 : -(2 ^ 62) ≤ n) (h2 : n < 2 ^ 62) (hm : X.mg "range" = none) (hg : Gl X "range" := by rfl) (hs : starEach (e :: []) X.env = (false, eval e X.env) :: starEach [] X.env := by rfl)
    (hs2 : starEach [e] X.env = [(false, eval e X.env)] := by rfl) : PIt X B es tg (.Call (.Name "range" p) [e] [] pos) Rp.int (upTo n) :=
  pi_imp (pi_range1 hg hm (par_cons h par_nil hs) hs2) fun σ H R ⟨G, E, q⟩ => ⟨G, E, fun vs G1 H1 s1 r1 => by
    obtain ⟨v, rfl, e⟩ := al1 r1
    refine ⟨n, by rw [show v = .int n from e], h1, h2, q _ G1 H1 s1 (aw_of_walk walk_range (by simp [upTo]) (fun _ _ _ _ => trivial) fun i G2 H2 x' H3 a b hi ⟨e3, e4⟩ => ⟨G2, (i : Int), ?_, by rw [e3]; exact Stp.refl b, ?_⟩)⟩
    · have hi : i < n.toNat := by simpa [upTo] using hi
      show ((List.range n.toNat).map Int.ofNat)[i]? = _
      rw [List.getElem?_map, List.getElem?_range hi]; rfl
    · show x' = .int (i : Int)
      rw [e4]; show V.int (0 + (i : Int)) = _; rw [Int.zero_add]⟩
theorem it_range2 {i j : Int} {p : Pos} (ha : PR X B es a (Rp.int.at i)) (hb : PR X B es b (Rp.int.at j)) (h1 : -(2 ^ 62) ≤ i ∧ i < 2 ^ 62 ∧ -(2 ^ 62) ≤ j ∧ j < 2 ^ 62) (hm : X.mg "range" = none) (hg : Gl X "range" := by rfl) (hs : starEach (a :: [b]) X.env = (false, eval a X.env) :: starEach [b] X.env := by rfl)
    (hs2 : starEach (b :: []) X.env = (false, eval b X.env) :: starEach [] X.env := by rfl) (hs3 : starEach [a, b] X.env = [(false, eval a X.env), (false, eval b X.env)] := by rfl) (hs4 : starEach [b] X.env = [(false, eval b X.env)] := by rfl) : PIt X B es tg (.Call (.Name "range" p) [a, b] [] pos) Rp.int (span i j) :=
  pi_imp (pi_range2 hg hm (par_cons ha (par_cons hb par_nil hs2) hs) hs3 hs4) fun σ H R ⟨G, E, q⟩ => ⟨G, E, fun vs G1 H1 s1 r1 => by
    obtain ⟨v, w, rfl, e, e2⟩ := al2 r1
    refine ⟨i, j, by rw [show v = .int i from e, show w = .int j from e2], h1, q _ G1 H1 s1 (aw_of_walk walk_range (by simp [span]) (fun _ _ _ _ => trivial) fun k G2 H2 x' H3 a b hi ⟨e3, e4⟩ => ⟨G2, i + (k : Int), ?_, by rw [e3]; exact Stp.refl b, e4⟩)⟩
    have hi : k < (j - i).toNat := by simpa [span] using hi
    unfold span
    rw [List.getElem?_map, List.getElem?_range hi]; rfl⟩
theorem enumI_get {α : Type} {xs : List α} {i : Nat} {x : α} (h : xs[i]? = some x) : (enumI xs)[i]? = some ((i : Int), x) := by
  unfold enumI
  rw [List.getElem?_map, List.getElem?_zipIdx, h]; simp
theorem enumI_len {α : Type} (xs : List α) : (enumI xs).length = xs.length := by simp [enumI]
theorem it_enum {α : Type} {A : Rp α} {xs : List α} {elts : List Expr} {kk : Nat} {tpos p : Pos} (h : PR X B es e (A.lst.at xs)) (hm : X.mg "enumerate" = none) (hg : Gl X "enumerate" := by rfl) (hs : starEach (e :: []) X.env = (false, eval e X.env) :: starEach [] X.env := by rfl)
    (hs2 : starEach [e] X.env = [(false, eval e X.env)] := by rfl) : PIt X B es (.Tuple elts kk tpos) (.Call (.Name "enumerate" p) [e] [] pos) (Rp.int.pair A) (enumI xs) :=
  pi_imp (pi_enum hg hm (par_cons h par_nil hs) hs2) fun σ H R ⟨G, E, q⟩ => ⟨G, E, fun ws G1 H1 s1 r1 => by
    obtain ⟨v, rfl, p, vs, e, h1, r, z⟩ := al1 r1
    refine ⟨p, vs, by rw [e], SqL.of (s1.gh _ _ h1), q _ G1 H1 s1 (aw_of_walk (walk_enum (xs := vs)) (by rw [enumI_len, r.length]) (fun G H a b => SqL.of (b _ _ (a _ _ h1))) fun i G2 H2 x' H3 a b hi y => ?_)⟩
    obtain ⟨T, x, y, rfl, hT, rfl, ex, ey⟩ := y
    obtain ⟨d, hd, rd⟩ := pgetL r ey
    cases ex
    exact ⟨_, _, enumI_get hd, Stp.new b hT _, ⟨T, _, y, rfl, SqT.of upd_same, rfl, A.mono (a.trans (same_upd _ (b.free hT))) rd⟩⟩⟩
end

/-! ### targets -/
theorem wipe_get (σ : L2.St) : ∀ (vs : List Nat) (k : Nat), (wipe σ vs)[k]? = if k ∈ vs then (if k < σ.length then some none else none) else σ[k]?
  | [], k => by simp [wipe]
  | v :: vs, k => by
    unfold wipe
    rw [List.getElem?_set, wipe_length, wipe_get σ vs k]
    by_cases h : v = k
    · subst h; simp
    · rw [if_neg h]
      have : (k ∈ v :: vs) ↔ k ∈ vs := by simp [Ne.symm h]
      simp only [this]
theorem wipe_wipe (σ : L2.St) (vs : List Nat) : wipe (wipe σ vs) vs = wipe σ vs := by
  apply List.ext_getElem?
  intro k
  rw [wipe_get, wipe_get, wipe_length]
  by_cases h : k ∈ vs <;> simp [h]
theorem wipe_set {σ : L2.St} {i : Nat} {o : Option V} {vs : List Nat} (h : i ∈ vs) : wipe (σ.set i o) vs = wipe σ vs := by
  apply List.ext_getElem?
  intro k
  rw [wipe_get, wipe_get, List.length_set]
  by_cases hk : k ∈ vs
  · simp [hk]
  · rw [if_neg hk, if_neg hk, List.getElem?_set_ne (show i ≠ k from fun e => hk (by rw [← e]; exact h))]
def wipeE (es : List Sl) : List Nat → List Sl
  | [] => es
  | v :: vs => (wipeE es vs).set v .un
theorem EnvA.wipe {K : PySem.W.Frag} {B : Bs} {es : List Sl} {σ : L2.St} {G H : Hp} (E : EnvA K B es σ G H) : ∀ vs : List Nat, EnvA K B (wipeE es vs) (L2.wipe σ vs) G H
  | [] => E
  | v :: vs => (E.wipe vs).setU
/-- what a target of an assignment, a for, a comprehension does to the slots: u tells the slots behind it, is the places it stores to -/
def tTgt {α : Type} (K : PySem.W.Frag) (A : Rp α) (u : List Sl → α → List Sl) (is : List Nat) : TG := fun v σ H Q => ∃ B es x G, EnvA K B es σ G H ∧ A.rel K G v x ∧ ∀ σ', L2.wipe σ' is = L2.wipe σ is → EnvA K B (u es x) σ' G H → Q σ' H
theorem pg_imp {X : Cx} {tg : Expr} {t t' : TG} (h : PG X tg t) (k : ∀ v σ H Q, t' v σ H Q → t v σ H Q) : PG X tg t' := ⟨fun pins s σ H v u Q I r q => h.run pins s σ H v u Q I r (k v σ H Q q)⟩
section
variable {X : Cx} {pos : Pos}
def uN {α : Type} (A : Rp α) (i : Nat) (es : List Sl) (x : α) : List Sl := es.set i (.dat A x)
def uP {α β : Type} (A : Rp α) (C : Rp β) (i j : Nat) (es : List Sl) (x : α × β) : List Sl := (es.set i (.dat A x.1)).set j (.dat C x.2)
theorem tg_name {α : Type} {A : Rp α} (i : Nat) {x : Str} (hN : X.N.Nodup) (hi : X.N[i]? = some x := by rfl) (hx : Loc X.env.scope x := by first | exact Or.inl rfl | exact Or.inr rfl) (hf : X.fn x = true ∨ X.env.scope.names.lookup x = some .local := by first | exact .inl rfl | exact .inr rfl | assumption) :
    PG X (.Name x pos) (tTgt X.K A (uN A i) [i]) :=
  pg_imp (pg_name hN hi hx hf) fun v σ H Q ⟨B, es, y, G, E, r, q⟩ => q _ (wipe_set (by simp)) (E.setD r)
theorem tg_pair {α β : Type} {A : Rp α} {C : Rp β} (i j : Nat) {x y : Str} {p1 p2 : Pos} {k : Nat} (hc : X.calm = true) (hN : X.N.Nodup) (hi : X.N[i]? = some x := by rfl) (hj : X.N[j]? = some y := by rfl) (hx : Loc X.env.scope x := by first | exact Or.inl rfl | exact Or.inr rfl) (hy : Loc X.env.scope y := by first | exact Or.inl rfl | exact Or.inr rfl)
    (hf : X.fn x = true ∨ X.env.scope.names.lookup x = some .local := by first | exact .inl rfl | exact .inr rfl | assumption) (hf2 : X.fn y = true ∨ X.env.scope.names.lookup y = some .local := by first | exact .inl rfl | exact .inr rfl | assumption)
    (h1 : (assignEach [.Name x p1, .Name y p2] X.env).map (·.2) = assign (.Name x p1) X.env :: (assignEach [.Name y p2] X.env).map (·.2) := by rfl) (h2 : (assignEach [.Name y p2] X.env).map (·.2) = assign (.Name y p2) X.env :: (assignEach [] X.env).map (·.2) := by rfl)
    (h3 : (assignEach [.Name x p1, .Name y p2] X.env).length = 2 := by rfl) (h4 : (assignEach [.Name x p1, .Name y p2] X.env).findIdx? (·.1) = none := by rfl) :
    PG X (.Tuple [.Name x p1, .Name y p2] k pos) (tTgt X.K (A.pair C) (uP A C i j) [i, j]) :=
  pg_imp (pg_tup hc (pgs_cons (pg_name hN hi hx hf) (pgs_cons (pg_name hN hj hy hf2) pgs_nil h2) h1) h3 h4) fun v σ H Q ⟨B, es, y, G, E, ⟨p, u, w, e, h, r1, r2⟩, q⟩ =>
    ⟨p, [u, w], e, same_t E.same h, rfl, u, [w], rfl, w, [], rfl, rfl, q _ ((wipe_set (by simp)).trans (wipe_set (by simp))) ((E.setD r1).setD r2)⟩
end

/-! ### comprehensions -/
theorem pts_imp {X : Cx} {ifs : List Expr} {t t' : TT} (h : PTs X ifs t) (k : ∀ σ H Q, t' σ H Q → t σ H Q) : PTs X ifs t' := ⟨fun pins s σ H Q I q => h.run pins s σ H Q I (k σ H Q q)⟩
section
variable {X : Cx} {B : Bs} {es : List Sl} {tg iter elt : Expr} {ifs : List Expr} {scope : Scope} {pos : Pos} {α β : Type} {A : Rp α} {C : Rp β} {ys : List α} {own : List (Str × Nat)}
theorem take_filter {c : α → Bool} {i : Nat} {y : α} (h : ys[i]? = some y) : (ys.take (i + 1)).filter c = (ys.take i).filter c ++ (if c y then [y] else []) := take_succ_filter c ys i y h
/-- the reading of a comprehension -/
theorem lc_read {wi : TI} {g : TG} {tt : TT} {te : TE} {u : List Sl → α → List Sl} {vs : List Nat} {c : α → Bool} {f : α → β} {zs : List β} (hz : (ys.filter c).map f = zs) (hlen : ys.length ≤ sizeLine)
    (hwi : ∀ σ H R, tPI X.K B es A ys σ H R → wi σ H R) (hg : ∀ v σ H Q, tTgt X.K A u vs v σ H Q → g v σ H Q)
    (ht : ∀ y σ H Q, y ∈ ys → tGT X.K B (u (wipeE es vs) y) (c y) σ H Q → tt σ H Q) (he : ∀ y σ H Q, y ∈ ys → c y = true → tG X.K B (u (wipeE es vs) y) (C.at (f y)) σ H Q → te σ H Q) :
    ∀ σ H Q, tG X.K B es (C.lst.at zs) σ H Q → tLc wi g tt te vs σ H Q := by
  subst hz
  rintro σ H Q ⟨G, E, q⟩
  refine hwi σ H _ ⟨G, E, fun J G1 H1 s1 aw D hD => ?_⟩
  have E1 := E.step s1
  refine ⟨fun i m H => m = ys.length - i ∧ i ≤ ys.length ∧ ∃ Gi acc, Stp G1 H1 Gi H ∧ Gi D = none ∧ H D = some (.lst acc) ∧ Paired (C.rel X.K Gi) acc (((ys.take i).filter c).map f),
    ⟨ys.length, by simp, Nat.zero_le _, G1, [], Stp.fresh s1.gh hD _, s1.gh.free hD, upd_same, .nil⟩, ?_⟩
  rintro i m Hi ⟨rfl, hi, Gi, acc, si, gD, hDi, ra⟩
  have lacc : acc.length ≤ i := by
    rw [ra.length, List.length_map]
    refine Nat.le_trans (List.length_filter_le _ _) ?_
    rw [List.length_take]; omega
  by_cases hlt : i < ys.length
  · refine .inr ⟨aw.go i Gi Hi si.gg si.gh hlt, fun H' => i + 1 ≤ ys.length ∧ ∃ Gi acc, Stp G1 H1 Gi H' ∧ Gi D = none ∧ H' D = some (.lst acc) ∧ Paired (C.rel X.K Gi) acc (((ys.take (i + 1)).filter c).map f), fun H' p => ⟨ys.length - (i + 1), by omega, rfl, p.1, p.2⟩, fun x H' yl => ?_⟩
    obtain ⟨G2, y, hy, s2, ry⟩ := aw.yld i Gi Hi x H' si.gg si.gh hlt yl
    have hm : y ∈ ys := List.mem_of_getElem? hy
    have hx := take_filter (c := c) hy
    have E2 := (E1.step (si.trans s2)).wipe vs
    have hD2 := s2.hh _ _ hDi
    have keep : ∀ {G3 H3 : Hp}, Stp Gi Hi G3 H3 → G3 D = none := fun {G3 H3} s3 => by
      cases e : G3 D with
      | none => rfl
      | some o =>
        rcases s3.nw D o e with z | z
        · rw [gD] at z; cases z
        · rw [hDi] at z; cases z
    refine hg _ _ _ _ ⟨B, wipeE es vs, y, G2, E2, ry, fun σ2 hw E3 => ⟨hw.trans (wipe_wipe σ vs), ht y _ _ _ hm ⟨G2, E3, fun G3 H3 s3 => ?_⟩⟩⟩
    cases hc : c y with
    | false =>
      refine iteF ?_
      rw [hc] at hx
      refine ⟨hlt, G3, acc, si.trans (s2.trans s3), keep (s2.trans s3), s3.hh _ _ hD2, ?_⟩
      have hx : (ys.take (i + 1)).filter c = (ys.take i).filter c := by simpa using hx
      rw [hx]
      exact pmono (fun _ _ => C.mono (s2.gg.trans s3.gg)) ra
    | true =>
      refine iteT ?_
      refine he y _ _ _ hm hc ⟨G3, E3.step s3, fun v G4 H4 s4 r4 => ⟨acc, s4.hh _ _ (s3.hh _ _ hD2), Nat.lt_of_le_of_lt lacc (Nat.lt_of_lt_of_le hlt hlen), hlt, G4, acc ++ [v], ?_, keep ((s2.trans s3).trans s4), upd_same, ?_⟩⟩
      · have s := si.trans ((s2.trans s3).trans s4)
        exact ⟨s.gg, same_updL _ s.gh (keep ((s2.trans s3).trans s4)), same_updL _ s.hh hD, s.nw⟩
      · rw [hc] at hx
        have hx : (ys.take (i + 1)).filter c = (ys.take i).filter c ++ [y] := by simpa using hx
        rw [hx, List.map_append]
        exact pappend (pmono (fun _ _ => C.mono (s2.gg.trans (s3.gg.trans s4.gg))) ra) (.cons r4 .nil)
  · have ei : i = ys.length := by omega
    subst ei
    refine .inl ⟨aw.stop Gi Hi si.gg si.gh, ?_⟩
    rw [List.take_length] at ra
    have zl : ((ys.filter c).map f).length ≤ sizeLine := by rw [← ra.length]; exact Nat.le_trans lacc hlen
    have s := s1.trans si
    refine q (.ref D) (upd Gi D (.lst acc)) Hi ⟨s.gg.trans (same_upd _ gD), fun b o e => ?_, s.hh, fun b o e => ?_⟩ ⟨D, acc, rfl, upd_same, pmono (fun _ _ => C.mono (same_upd _ gD)) ra, zl⟩
    · by_cases hb : b = D
      · subst hb; rw [upd_same] at e; cases e; exact hDi
      · rw [upd_ne hb] at e; exact si.gh b o e
    · by_cases hb : b = D
      · subst hb; exact .inr (s1.hh.free hD)
      · rw [upd_ne hb] at e; exact s.nw b o e
/-- [elt for tg in iter if ..] -/
theorem pr_lc (own : List (Str × Nat)) {u : List Sl → α → List Sl} {c : α → Bool} {f : α → β} {zs : List β} (hi : PIt X B es tg iter A ys)
    (hg : ∀ (s : Shared) (H : Hp) (L : Addr) (cl : List (Str × Addr)) (fp : List Addr), PG (X.blk s H scope (compEnvC scope cl L X.env) fp) tg (tTgt X.K A u (own.map (·.2))))
    (ht : ∀ y, y ∈ ys → ∀ (s : Shared) (H : Hp) (L : Addr) (cl : List (Str × Addr)) (fp : List Addr), PTs (X.blk s H scope (compEnvC scope cl L X.env) fp) ifs (tGT X.K B (u (wipeE es (own.map (·.2))) y) (c y)))
    (he : ∀ y, y ∈ ys → c y = true → ∀ (s : Shared) (H : Hp) (L : Addr) (cl : List (Str × Addr)) (fp : List Addr), PR (X.blk s H scope (compEnvC scope cl L X.env) fp) B (u (wipeE es (own.map (·.2))) y) elt (C.at (f y)))
    (hlen : ys.length ≤ sizeLine) (hN : X.N.Nodup) (hz : (ys.filter c).map f = zs := by rfl) (hc : X.calm = true := by rfl) (ok : blkC X.N X.env.scope scope own = true := by kernel_rfl) (hs : ∀ x, foldedSetIterable iter X.env x = pure x := by intro _; rfl) :
    PR X B es (.ListComp elt [⟨tg, iter, ifs, 0⟩] scope pos) (C.lst.at zs) :=
  pe_imp (pe_lc (g := tTgt X.K A u (own.map (·.2))) (tt := fun σ H Q => ∃ y, y ∈ ys ∧ tGT X.K B (u (wipeE es (own.map (·.2))) y) (c y) σ H Q) (te := fun σ H Q => ∃ y, y ∈ ys ∧ c y = true ∧ tG X.K B (u (wipeE es (own.map (·.2))) y) (C.at (f y)) σ H Q)
      hc hN hi (blkOk_by ok) hg (fun s H L cl fp => ⟨fun pins s' σ H' Q I ⟨y, hy, q⟩ => (ht y hy s H L cl fp).run pins s' σ H' Q I q⟩) (fun s H L cl fp => ⟨fun pins s' σ H' Q I ⟨y, hy, hcy, q⟩ => (he y hy hcy s H L cl fp).run pins s' σ H' Q I q⟩) hs)
    (lc_read hz hlen (fun _ _ _ q => q) (fun _ _ _ _ q => q) (fun y _ _ _ hy q => ⟨y, hy, q⟩) (fun y _ _ _ hy hcy q => ⟨y, hy, hcy, q⟩))
theorem pts_yes {k : Bool} (hk : k = true := by rfl) : PTs X [] (tGT X.K B es k) := by
  subst hk
  exact pts_imp pts_nil fun σ H Q ⟨G, E, q⟩ => q G H (Stp.refl E.same)
theorem pts_1 {c : Expr} {k : Bool} (h : PB X B es c k) : PTs X [c] (tGT X.K B es k) := pts_one h
/-- [elt for tg in iter] -/
theorem pr_lcm (own : List (Str × Nat)) {u : List Sl → α → List Sl} (f : α → β) (hi : PIt X B es tg iter A ys)
    (hg : ∀ (s : Shared) (H : Hp) (L : Addr) (cl : List (Str × Addr)) (fp : List Addr), PG (X.blk s H scope (compEnvC scope cl L X.env) fp) tg (tTgt X.K A u (own.map (·.2))))
    (he : ∀ y, y ∈ ys → ∀ (s : Shared) (H : Hp) (L : Addr) (cl : List (Str × Addr)) (fp : List Addr), PR (X.blk s H scope (compEnvC scope cl L X.env) fp) B (u (wipeE es (own.map (·.2))) y) elt (C.at (f y)))
    (hlen : ys.length ≤ sizeLine) (hN : X.N.Nodup) (hc : X.calm = true := by rfl) (ok : blkC X.N X.env.scope scope own = true := by kernel_rfl) (hs : ∀ x, foldedSetIterable iter X.env x = pure x := by intro _; rfl) :
    PR X B es (.ListComp elt [⟨tg, iter, [], 0⟩] scope pos) (C.lst.at (ys.map f)) :=
  pr_lc own (c := fun _ => true) hi hg (fun y _ _ _ _ _ _ => pts_yes) (fun y hy _ => he y hy) hlen hN (by rw [List.filter_eq_self.mpr (fun _ _ => rfl)]) hc ok hs
end
end Rw

/-! RwE: statements, defs, calls on abstract slots -/
namespace Rw
open PySem PyProof.Rows L2

/-- what a block may end in: the slots told behind it, what it hands back -/
structure Out where
  nx : List Sl → Prop
  rt : Hp → V → Prop
  rn : Hp → Hp → V → Prop
structure Out.le (O : Out) (K : PySem.W.Frag) (B : Bs) (D : Ends) : Prop where
  nx : ∀ es σ G H, O.nx es → EnvA K B es σ G H → D.nx σ H
  rt : ∀ v G H, Stp B.G B.H G H → O.rt G v → D.rt v H
  rn : ∀ v G H, Stp B.G B.H G H → O.rn G H v → D.rt v H
def tO (K : PySem.W.Frag) (B : Bs) (es : List Sl) (O : Out) : TS := fun D σ H => ∃ G, EnvA K B es σ G H ∧ O.le K B D
abbrev PSt (X : Cx) (B : Bs) (es : List Sl) (st : Stmt) (O : Out) : Prop := PS X st (tO X.K B es O)
abbrev PSl (X : Cx) (B : Bs) (es : List Sl) (sts : List Stmt) (O : Out) : Prop := PSs X sts (tO X.K B es O)
section
variable {X : Cx} {B : Bs} {es : List Sl} {st : Stmt} {sts : List Stmt} {O : Out} {e a b c : Expr} {R : Rl} {pos p' : Pos}
theorem ss_nil (h : O.nx es) : PSl X B es [] O := pss_imp pss_nil fun D σ H ⟨G, E, q⟩ => q.nx es σ G H h E
/-- a statement, then the rest -/
theorem ss_seq {M : List Sl → Prop} (h1 : PSt X B es st { O with nx := M }) (h2 : ∀ es', M es' → PSl X B es' sts O) : PSl X B es (st :: sts) O :=
  pss_imp (pss_cons h1 (u := fun D σ H => ∃ es', M es' ∧ tO X.K B es' O D σ H) ⟨fun pins s σ H D I ⟨es', m, q⟩ => (h2 es' m).run pins s σ H D I q⟩)
    fun D σ H ⟨G, E, q⟩ => ⟨G, E, ⟨fun es' σ' G' H' m E' => ⟨es', m, G', E', q⟩, q.rt, q.rn⟩⟩
/-- by what a statement does to the slots and the heap -/
theorem ss_do {t : TS} {es' : List Sl} (h : PS X st t) (k : ∀ D σ G H, EnvA X.K B es σ G H → (∀ σ' G' H', EnvA X.K B es' σ' G' H' → D.nx σ' H') → t D σ H) (r : PSl X B es' sts O) : PSl X B es (st :: sts) O :=
  ss_seq (M := fun x => x = es') (ps_imp h fun D σ H ⟨G, E, q⟩ => k D σ G H E fun σ' G' H' E' => q.nx es' σ' G' H' rfl E') fun _ e => e ▸ r
theorem ss_doc {x j} (r : PSl X B es sts O) : PSl X B es (.Expr (.Constant (.str x) j p') pos :: sts) O := ss_do ps_doc (fun D σ G H E q => q σ G H E) r
theorem ss_pass (r : PSl X B es sts O) : PSl X B es (.Pass pos :: sts) O := ss_do ps_pass (fun D σ G H E q => q σ G H E) r
/-- x = e -/
theorem ss_set (i : Nat) {x : Str} {α : Type} {A : Rp α} {d : α} (h : PR X B es e (A.at d)) (r : PSl X B (es.set i (.dat A d)) sts O) (hN : X.N.Nodup) (hi : X.N[i]? = some x := by rfl) (hx : Loc X.env.scope x := by first | exact Or.inl rfl | exact Or.inr rfl)
    (hs : swapsWith e (some (.Name x p')) pos.line X.env = pure false := by rfl) (hf : X.fn x = true ∨ X.env.scope.names.lookup x = some .local := by first | exact .inl rfl | exact .inr rfl | assumption) : PSl X B es (.Assign [.Name x p'] e pos :: sts) O :=
  ss_do (ps_set hN hi hx h hs hf) (fun D σ G H E q => ⟨G, E, fun v G' H' s rv => q _ G' H' ((E.step s).setD rv)⟩) r
/-- x = [.. for ..] -/
theorem ss_setLc (i : Nat) {x : Str} {α β : Type} {A : Rp α} {C : Rp β} {ys : List α} (own : List (Str × Nat)) {u : List Sl → α → List Sl} {cc : α → Bool} {f : α → β} {zs : List β} {tg iter elt : Expr} {ifs : List Expr} {scope : Scope} {lpos : Pos} (hi : PIt X B es tg iter A ys)
    (hg : ∀ (s : Shared) (H : Hp) (L : Addr) (cl : List (Str × Addr)) (fp : List Addr), PG (X.blk s H scope (compEnvC scope cl L X.env) fp) tg (tTgt X.K A u (own.map (·.2))))
    (ht : ∀ y, y ∈ ys → ∀ (s : Shared) (H : Hp) (L : Addr) (cl : List (Str × Addr)) (fp : List Addr), PTs (X.blk s H scope (compEnvC scope cl L X.env) fp) ifs (tGT X.K B (u (wipeE es (own.map (·.2))) y) (cc y)))
    (he : ∀ y, y ∈ ys → cc y = true → ∀ (s : Shared) (H : Hp) (L : Addr) (cl : List (Str × Addr)) (fp : List Addr), PR (X.blk s H scope (compEnvC scope cl L X.env) fp) B (u (wipeE es (own.map (·.2))) y) elt (C.at (f y)))
    (hlen : ys.length ≤ sizeLine) (hN : X.N.Nodup) (r : PSl X B (es.set i (.dat C.lst zs)) sts O) (hz : (ys.filter cc).map f = zs := by rfl) (hc : X.calm = true := by rfl) (ok : blkC X.N X.env.scope scope own = true := by kernel_rfl)
    (hy : X.N[i]? = some x := by rfl) (hyl : X.env.scope.names.lookup x = some .local := by rfl) (hsw : swapsWith (.ListComp elt [⟨tg, iter, ifs, 0⟩] scope lpos) (some (.Name x p')) pos.line X.env = pure true := by exact sw_true rfl rfl rfl (by kernel_rfl)) (hs : ∀ x, foldedSetIterable iter X.env x = pure x := by intro _; rfl) :
    PSl X B es (.Assign [.Name x p'] (.ListComp elt [⟨tg, iter, ifs, 0⟩] scope lpos) pos :: sts) O :=
  ss_do (ps_setLc (g := tTgt X.K A u (own.map (·.2))) (tt := fun σ H Q => ∃ y, y ∈ ys ∧ tGT X.K B (u (wipeE es (own.map (·.2))) y) (cc y) σ H Q) (te := fun σ H Q => ∃ y, y ∈ ys ∧ cc y = true ∧ tG X.K B (u (wipeE es (own.map (·.2))) y) (C.at (f y)) σ H Q)
      hc hN hy hyl hsw hi (blkOk_by ok) hg (fun s H L cl fp => ⟨fun pins s' σ H' Q I ⟨y, hy, q⟩ => (ht y hy s H L cl fp).run pins s' σ H' Q I q⟩) (fun s H L cl fp => ⟨fun pins s' σ H' Q I ⟨y, hy, hcy, q⟩ => (he y hy hcy s H L cl fp).run pins s' σ H' Q I q⟩) hs)
    (fun D σ G H E q => lc_read (C := C) hz hlen (fun _ _ _ q => q) (fun _ _ _ _ q => q) (fun y _ _ _ hy q => ⟨y, hy, q⟩) (fun y _ _ _ hy hcy q => ⟨y, hy, hcy, q⟩) σ H _ ⟨G, E, fun v G' H' s rv => q _ G' H' ((E.step s).setD rv)⟩) r
theorem ss_setLcm (i : Nat) {x : Str} {α β : Type} {A : Rp α} {C : Rp β} {ys : List α} (own : List (Str × Nat)) {u : List Sl → α → List Sl} (f : α → β) {tg iter elt : Expr} {scope : Scope} {lpos : Pos} (hi : PIt X B es tg iter A ys)
    (hg : ∀ (s : Shared) (H : Hp) (L : Addr) (cl : List (Str × Addr)) (fp : List Addr), PG (X.blk s H scope (compEnvC scope cl L X.env) fp) tg (tTgt X.K A u (own.map (·.2))))
    (he : ∀ y, y ∈ ys → ∀ (s : Shared) (H : Hp) (L : Addr) (cl : List (Str × Addr)) (fp : List Addr), PR (X.blk s H scope (compEnvC scope cl L X.env) fp) B (u (wipeE es (own.map (·.2))) y) elt (C.at (f y)))
    (hlen : ys.length ≤ sizeLine) (hN : X.N.Nodup) (r : PSl X B (es.set i (.dat C.lst (ys.map f))) sts O) (hc : X.calm = true := by rfl) (ok : blkC X.N X.env.scope scope own = true := by kernel_rfl)
    (hy : X.N[i]? = some x := by rfl) (hyl : X.env.scope.names.lookup x = some .local := by rfl) (hsw : swapsWith (.ListComp elt [⟨tg, iter, [], 0⟩] scope lpos) (some (.Name x p')) pos.line X.env = pure true := by exact sw_true rfl rfl rfl (by kernel_rfl)) (hs : ∀ x, foldedSetIterable iter X.env x = pure x := by intro _; rfl) :
    PSl X B es (.Assign [.Name x p'] (.ListComp elt [⟨tg, iter, [], 0⟩] scope lpos) pos :: sts) O :=
  ss_setLc i own (cc := fun _ => true) hi hg (fun y _ _ _ _ _ _ => pts_yes) (fun y hy _ => he y hy) hlen hN r (by rw [List.filter_eq_self.mpr (fun _ _ => rfl)]) hc ok hy hyl hsw hs
/-- x = [..], a list that x owns -/
theorem ss_ownL (i : Nat) {x : Str} {α : Type} (A : Rp α) (xs : List α) {as : List Expr} {lp : Pos} (h : PAr X B es as (xs.map A.at)) (r : PSl X B (es.set i (.own (.lst A xs))) sts O) (hN : X.N.Nodup) (z : xs.length ≤ sizeLine := by decide) (hi : X.N[i]? = some x := by rfl) (hx : Loc X.env.scope x := by first | exact Or.inl rfl | exact Or.inr rfl)
    (hs : swapsWith (.List as lp) (some (.Name x p')) pos.line X.env = pure false := by rfl) (hf : X.fn x = true ∨ X.env.scope.names.lookup x = some .local := by first | exact .inl rfl | exact .inr rfl | assumption) : PSl X B es (.Assign [.Name x p'] (.List as lp) pos :: sts) O :=
  ss_do (ps_set hN hi hx (pe_lst h) hs hf) (fun D σ G H E q => ⟨G, E, fun vs G' H' s rv => by
    have rv := als_lst rv
    exact ⟨by rw [rv.length]; exact z, fun p hp => q _ G' _ ((E.step s).fresh hp ⟨vs, rfl, rv, z⟩)⟩⟩) r
theorem ss_own0 (i : Nat) {x : Str} {α : Type} (A : Rp α) {lp : Pos} (r : PSl X B (es.set i (.own (.lst A []))) sts O) (hN : X.N.Nodup) (hi : X.N[i]? = some x := by rfl) (hx : Loc X.env.scope x := by first | exact Or.inl rfl | exact Or.inr rfl)
    (hs : swapsWith (.List [] lp) (some (.Name x p')) pos.line X.env = pure false := by rfl) (hf : X.fn x = true ∨ X.env.scope.names.lookup x = some .local := by first | exact .inl rfl | exact .inr rfl | assumption) : PSl X B es (.Assign [.Name x p'] (.List [] lp) pos :: sts) O :=
  ss_ownL i A [] par_nil r hN (Nat.zero_le _) hi hx hs hf
/-- x = {}, a dict that x owns -/
theorem ss_ownD (i : Nat) {x : Str} {α : Type} (A : Rp α) {lp : Pos} (r : PSl X B (es.set i (.own (.dct A []))) sts O) (hN : X.N.Nodup) (hi : X.N[i]? = some x := by rfl) (hx : Loc X.env.scope x := by first | exact Or.inl rfl | exact Or.inr rfl)
    (hs : swapsWith (.Dict [] [] lp) (some (.Name x p')) pos.line X.env = pure false := by rfl) (hf : X.fn x = true ∨ X.env.scope.names.lookup x = some .local := by first | exact .inl rfl | exact .inr rfl | assumption) : PSl X B es (.Assign [.Name x p'] (.Dict [] [] lp) pos :: sts) O :=
  ss_do (ps_set hN hi hx pe_dnewK hs hf) (fun D σ G H E q p hp => q _ G _ (E.fresh (O := .dct A []) hp ⟨[], rfl, .nil, Nat.zero_le _⟩)) r
/-- what a slot owns is let stand -/
theorem ss_frzL {α : Type} {A : Rp α} {xs : List α} (i : Nat) (r : PSl X B (es.set i (.dat A.lst xs)) sts O) (h : es[i]? = some (.own (.lst A xs)) := by rfl) : PSl X B es sts O :=
  pss_imp r fun D σ H ⟨G, E, q⟩ => let ⟨G', E'⟩ := E.frz_l h; ⟨G', E', q⟩
theorem ss_frzD {α : Type} {A : Rp α} {xs : List (Str × α)} (i : Nat) (r : PSl X B (es.set i (.dat A.dct xs)) sts O) (h : es[i]? = some (.own (.dct A xs)) := by rfl) : PSl X B es sts O :=
  pss_imp r fun D σ H ⟨G, E, q⟩ => let ⟨G', E'⟩ := E.frz_d h; ⟨G', E', q⟩
/-- a slot is forgotten -/
theorem ss_forget (i : Nat) (r : PSl X B (es.set i .un) sts O) : PSl X B es sts O := pss_imp r fun D σ H ⟨G, E, q⟩ => ⟨G, E.weak i, q⟩
/-- a, b = e -/
theorem ss_pair (i j : Nat) {x y : Str} {α β : Type} {A : Rp α} {C : Rp β} {d : α × β} {p1 p2 tp : Pos} {k : Nat} (h : PR X B es e ((A.pair C).at d)) (r : PSl X B ((es.set i (.dat A d.1)).set j (.dat C d.2)) sts O) (hc : X.calm = true) (hN : X.N.Nodup)
    (tg : PG X (.Tuple [.Name x p1, .Name y p2] k tp) (tTgt X.K (A.pair C) (uP A C i j) [i, j]))
    (hs : swapsWithSole [.Tuple [.Name x p1, .Name y p2] k tp] e pos.line X.env = pure false := by rfl) (hw : swappedStores [.Tuple [.Name x p1, .Name y p2] k tp] e X.env = pure none := by rfl)
    (h1 : (assignEach [.Tuple [.Name x p1, .Name y p2] k tp] X.env).map (·.2) = [assign (.Tuple [.Name x p1, .Name y p2] k tp) X.env] := by rfl) : PSl X B es (.Assign [.Tuple [.Name x p1, .Name y p2] k tp] e pos :: sts) O :=
  ss_do (ps_asg h tg hs hw h1) (fun D σ G H E q => ⟨G, E, fun v G' H' s rv => ⟨B, es, d, G', E.step s, rv, fun σ' _ E' => q σ' G' H' E'⟩⟩) r
/-- xs.append(e), xs a list that slot i owns -/
theorem ss_append (i : Nat) {x : Str} {α : Type} {A : Rp α} {xs : List α} {d : α} {np apos cpos : Pos} (h : PR X B es e (A.at d)) (r : PSl X B (es.set i (.own (.lst A (xs ++ [d])))) sts O) (z : xs.length < sizeLine) (hi : es[i]? = some (.own (.lst A xs)) := by rfl) (hN : X.N[i]? = some x := by rfl)
    (hv : Vis X.env.scope x := by first | exact Or.inl rfl | exact Or.inr (Or.inl rfl) | exact Or.inr (Or.inr rfl)) (hd : (x == ("__debug__" : Str)) = false := by decide) (hcd : (x == ("__classdict__" : Str)) = false := by decide)
    (hbase : attributeBase (.Name x np) "append" X.env (eval (.Name x np) X.env) = eval (.Name x np) X.env := by rfl)
    (hfew : ((backTo cpos (starEach (e :: []) X.env)).all (fun x => !x.1) && (backToKw cpos (keywordEach [] X.env)).all (fun x => x.1.isSome) && decide ((e :: []).length + ([] : List Keyword).length + (if ([] : List Keyword).isEmpty then 0 else 1) < 30)) = true := by rfl)
    (hline : (apos.endLine == cpos.line) = true := by rfl) (hs : starEach (e :: []) X.env = (false, eval e X.env) :: starEach [] X.env := by rfl) (hplain : (backTo cpos (starEach [] X.env)).any (·.1) = false := by rfl)
    (hsw : swapsWith (.Call (.Attribute (.Name x np) "append" apos) [e] [] cpos) none pos.line X.env = pure false := by rfl) :
    PSl X B es (.Expr (.Call (.Attribute (.Name x np) "append" apos) [e] [] cpos) pos :: sts) O :=
  ss_do (ps_expr (pe_bm PySem.F.plainAttrs_list PySem.F.slot_list_append PySem.F.type_list_append mt_append (pe_var hN hv hd hcd) (par_cons h par_nil hs) hbase hfew hline hs hplain) hsw)
    (fun D σ G H E q => by
      obtain ⟨p, o, e1, h1, ⟨vs, eo, rv, zv⟩, h2, h3⟩ := E.getO hi
      subst eo
      refine ⟨_, e1, .inl ⟨rfl, _, SqL.of h1⟩, G, E, fun us G' H' s ra => ?_⟩
      obtain ⟨v, rfl, rd⟩ := al1 ra
      have h1' := s.hh _ _ h1
      refine ⟨p, vs, v, rfl, rfl, h1', by rw [rv.length]; exact z, ?_⟩
      refine q _ G' _ ((E.step s).mut hi e1 ⟨vs ++ [v], rfl, (pmono (fun _ _ => A.mono s.gg) rv).snoc rd, ?_⟩)
      rw [List.length_append]; exact z) r
/-- xs.extend(e) -/
theorem ss_extend (i : Nat) {x : Str} {α : Type} {A : Rp α} {xs ys : List α} {np apos cpos : Pos} (h : PR X B es e (A.lst.at ys)) (r : PSl X B (es.set i (.own (.lst A (xs ++ ys)))) sts O) (z : xs.length + ys.length ≤ sizeLine) (hi : es[i]? = some (.own (.lst A xs)) := by rfl) (hN : X.N[i]? = some x := by rfl)
    (hv : Vis X.env.scope x := by first | exact Or.inl rfl | exact Or.inr (Or.inl rfl) | exact Or.inr (Or.inr rfl)) (hd : (x == ("__debug__" : Str)) = false := by decide) (hcd : (x == ("__classdict__" : Str)) = false := by decide)
    (hbase : attributeBase (.Name x np) "extend" X.env (eval (.Name x np) X.env) = eval (.Name x np) X.env := by rfl)
    (hfew : ((backTo cpos (starEach (e :: []) X.env)).all (fun x => !x.1) && (backToKw cpos (keywordEach [] X.env)).all (fun x => x.1.isSome) && decide ((e :: []).length + ([] : List Keyword).length + (if ([] : List Keyword).isEmpty then 0 else 1) < 30)) = true := by rfl)
    (hline : (apos.endLine == cpos.line) = true := by rfl) (hs : starEach (e :: []) X.env = (false, eval e X.env) :: starEach [] X.env := by rfl) (hplain : (backTo cpos (starEach [] X.env)).any (·.1) = false := by rfl)
    (hsw : swapsWith (.Call (.Attribute (.Name x np) "extend" apos) [e] [] cpos) none pos.line X.env = pure false := by rfl) :
    PSl X B es (.Expr (.Call (.Attribute (.Name x np) "extend" apos) [e] [] cpos) pos :: sts) O :=
  ss_do (ps_expr (pe_bm PySem.F.plainAttrs_list PySem.F.slot_list_extend PySem.F.type_list_extend mt_extend (pe_var hN hv hd hcd) (par_cons h par_nil hs) hbase hfew hline hs hplain) hsw)
    (fun D σ G H E q => by
      obtain ⟨p, o, e1, h1, ⟨vs, eo, rv, zv⟩, h2, h3⟩ := E.getO hi
      subst eo
      refine ⟨_, e1, .inl ⟨rfl, _, SqL.of h1⟩, G, E, fun us G' H' s ra => ?_⟩
      obtain ⟨v, rfl, b, ws, rfl, hb, rw, zw⟩ := al1 ra
      have h1' := s.hh _ _ h1
      refine ⟨p, b, vs, ws, rfl, rfl, h1', s.gh _ _ hb, by rw [rv.length, rw.length]; exact z, ?_⟩
      refine q _ G' _ ((E.step s).mut hi e1 ⟨vs ++ ws, rfl, pappend (pmono (fun _ _ => A.mono s.gg) rv) rw, ?_⟩)
      rw [List.length_append]; exact z) r
/-- d[k] = e, d a dict that slot i owns -/
theorem ss_dput (i : Nat) {x : Str} {α : Type} {A : Rp α} {kvs : List (Str × α)} {k : Str} {d : α} {np : Pos} (h : PR X B es e (A.at d)) (hk : PR X B es a (Rp.str.at k)) (r : PSl X B (es.set i (.own (.dct A (dput kvs k d)))) sts O) (hu : X.A.units + 1 < cLine) (z : kvs.length < sizeLine) (hi : es[i]? = some (.own (.dct A kvs)) := by rfl) (hN : X.N[i]? = some x := by rfl)
    (hv : Vis X.env.scope x := by first | exact Or.inl rfl | exact Or.inr (Or.inl rfl) | exact Or.inr (Or.inr rfl)) (hd : (x == ("__debug__" : Str)) = false := by decide) (hcd : (x == ("__classdict__" : Str)) = false := by decide)
    (hs : swapsWith e (some (.Subscript (.Name x np) a p')) pos.line X.env = pure false := by rfl) : PSl X B es (.Assign [.Subscript (.Name x np) a p'] e pos :: sts) O :=
  ss_do (ps_dput hu (pe_var hN hv hd hcd) hk h hs)
    (fun D σ G H E q => ⟨G, E, fun v G1 H1 s1 rv => by
      have E1 := E.step s1
      obtain ⟨p, o, e1, h1, ⟨ds, eo, rd, zd⟩, h2, h3⟩ := E1.getO hi
      subst eo
      refine ⟨_, e1, G1, E1, fun y G2 H2 s2 ⟨ey, zk⟩ => ?_⟩
      subst ey
      have h1' := s2.hh _ _ h1
      refine ⟨p, _, rfl, DPut.k (k := Sum.inr k) h1' (by rw [rd.length]; exact z), ?_⟩
      refine q _ G2 _ ((E1.step s2).mut hi e1 ⟨_, rfl, dput_p (pmono (fun _ _ ⟨q1, q2, q3⟩ => ⟨q1, A.mono s2.gg q2, q3⟩) rd) (A.mono s2.gg rv) zk, ?_⟩)
      exact Nat.le_trans (dput_len _ _ _) z⟩) r
/-- if -/
theorem ss_if {k : Bool} {th el : List Stmt} (M : List Sl → Prop) (hc : PB X B es c k) (ht : k = true → PSl X B es th { O with nx := M }) (he : k = false → PSl X B es el { O with nx := M }) (r : ∀ es', M es' → PSl X B es' sts O) : PSl X B es (.If c th el pos :: sts) O := by
  refine ss_seq (M := M) ?_ r
  cases k with
  | true => exact ps_imp (ps_if hc (ht rfl) pss_never) fun D σ H ⟨G, E, q⟩ => ⟨G, E, fun G' H' s => iteT ⟨G', E.step s, q⟩⟩
  | false => exact ps_imp (ps_if hc pss_never (he rfl)) fun D σ H ⟨G, E, q⟩ => ⟨G, E, fun G' H' s => iteF ⟨G', E.step s, q⟩⟩
/-- if whose rest is told twice, or whose branch hands back -/
theorem ss_if2 {k : Bool} {th el : List Stmt} (hc : PB X B es c k) (ht : k = true → PSl X B es th { O with nx := fun es' => PSl X B es' sts O }) (he : k = false → PSl X B es el { O with nx := fun es' => PSl X B es' sts O }) : PSl X B es (.If c th el pos :: sts) O :=
  ss_if _ hc ht he fun _ h => h
theorem ss_ifT {th el : List Stmt} {k : Bool} (hc : PB X B es c k) (hk : k = true) (ht : PSl X B es th { O with nx := fun es' => PSl X B es' sts O }) : PSl X B es (.If c th el pos :: sts) O := ss_if2 hc (fun _ => ht) fun h => by rw [hk] at h; cases h
theorem ss_ifF {th el : List Stmt} {k : Bool} (hc : PB X B es c k) (hk : k = false) (he : PSl X B es el { O with nx := fun es' => PSl X B es' sts O }) : PSl X B es (.If c th el pos :: sts) O := ss_if2 hc (fun h => by rw [hk] at h; cases h) fun _ => he
/-- return e -/
theorem ss_ret {α : Type} {A : Rp α} {d : α} (h : PR X B es e (A.at d)) (k : ∀ G v, A.rel X.K G v d → O.rt G v) : PSl X B es (.Return (some e) pos :: sts) O :=
  ss_seq (M := fun _ => False) (ps_imp (ps_ret h) fun D σ H ⟨G, E, q⟩ => ⟨G, E, fun v G' H' s r => q.rt v G' H' (E.st.trans s) (k G' v r)⟩) fun _ h => h.elim
/-- an expression whose value is dropped -/
theorem ss_expr (h : PR X B es e R) (r : PSl X B es sts O) (hs : swapsWith e none pos.line X.env = pure false := by rfl) : PSl X B es (.Expr e pos :: sts) O :=
  ss_do (ps_expr h hs) (fun D σ G H E q => ⟨G, E, fun v G' H' s _ => q σ G' H' (E.step s)⟩) r
/-- for -/
theorem ss_for {α : Type} {A : Rp α} {ys : List α} {u : List Sl → α → List Sl} {is : List Nat} {tg iter : Expr} {body : List Stmt} (I : Nat → List Sl → Prop) (hi : PIt X B es tg iter A ys) (hg : PG X tg (tTgt X.K A u is)) (h0 : I 0 es)
    (hb : ∀ B' i y es', ys[i]? = some y → I i es' → PSl X B' (u es' y) body { O with nx := I (i + 1) }) (hd : ∀ es', I ys.length es' → PSl X B es' sts O) (hp : PassesOwn (model X.prog X.w) X.A X.env X.xe) (hc : X.calm = true) (hs : ∀ x, foldedSetIterable iter X.env x = pure x := by intro _; rfl) :
    PSl X B es (.For tg iter body [] pos :: sts) O := by
  refine ss_seq (M := I ys.length) (ps_imp (ps_for hp hc hi hg (tb := fun D σ H => ∃ B' es' O', PSl X B' es' body O' ∧ tO X.K B' es' O' D σ H) ⟨fun pins s σ H D I ⟨B', es', O', h, q⟩ => h.run pins s σ H D I q⟩ hs) ?_) hd
  rintro D σ H ⟨G, E, q⟩
  refine ⟨G, E, fun J G1 H1 s1 aw => ?_⟩
  obtain ⟨B', eB, E1, N⟩ := (E.step s1).enter
  subst eB
  refine ⟨fun i m σ H => m = ys.length - i ∧ i ≤ ys.length ∧ ∃ es' G', I i es' ∧ EnvA X.K B' es' σ G' H, ⟨ys.length, by simp, Nat.zero_le _, es, _, h0, E1⟩, ?_⟩
  rintro i m σ2 H2 ⟨rfl, hi, es', G2, hI, E2⟩
  by_cases hlt : i < ys.length
  · refine .inr ⟨aw.go i G2 H2 E2.st.gg E2.same hlt, fun σ H => i + 1 ≤ ys.length ∧ ∃ es' G', I (i + 1) es' ∧ EnvA X.K B' es' σ G' H, fun σ' H' p => ⟨ys.length - (i + 1), by omega, rfl, p.1, p.2⟩, fun x H3 yl => ?_⟩
    obtain ⟨G3, y, hy, s3, ry⟩ := aw.yld i G2 H2 x H3 E2.st.gg E2.same hlt yl
    refine ⟨B', es', y, G3, E2.step s3, ry, fun σ3 _ E3 => ⟨B', u es' y, _, hb B' i y es' hy hI, G3, E3, ⟨fun es4 σ4 G4 H4 hI4 E4 => ⟨hlt, es4, G4, hI4, E4⟩, fun v G4 H4 s4 hr => q.rt v G4 H4 (N.stp _ _ s4) hr, fun v G4 H4 s4 hr => q.rn v G4 H4 (N.stp _ _ s4) hr⟩⟩⟩
  · have ei : i = ys.length := by omega
    subst ei
    exact .inl ⟨aw.stop G2 H2 E2.st.gg E2.same, q.nx es' σ2 G2 H2 hI (N.env _ _ _ _ E2)⟩
/-- while: n bounds the turns that are left -/
theorem ss_while {body : List Stmt} (I : Nat → List Sl → Prop) {n0 : Nat} (h0 : I n0 es)
    (hb : ∀ B' n es', I n es' → ∃ k, PB X B' es' c k ∧ (k = true → PSl X B' es' body { O with nx := fun e2 => ∃ m, m < n ∧ I m e2 }) ∧ (k = false → PSl X B es' sts O)) (hp : PassesOwn (model X.prog X.w) X.A X.env X.xe) : PSl X B es (.While c body [] pos :: sts) O := by
  refine ss_seq (M := fun es' => PSl X B es' sts O) (ps_imp (ps_while hp (tc := fun σ H Q => ∃ B' es' k, PB X B' es' c k ∧ tGT X.K B' es' k σ H Q) ⟨fun pins s σ H Q I ⟨B', es', k, h, q⟩ => h.run pins s σ H Q I q⟩
    (tb := fun D σ H => ∃ B' es' O', PSl X B' es' body O' ∧ tO X.K B' es' O' D σ H) ⟨fun pins s σ H D I ⟨B', es', O', h, q⟩ => h.run pins s σ H D I q⟩) ?_) fun _ h => h
  rintro D σ H ⟨G, E, q⟩
  refine ⟨fun m σ H => ∃ es' G', I m es' ∧ EnvA X.K B es' σ G' H, ⟨n0, es, G, h0, E⟩, ?_⟩
  rintro m σ2 H2 ⟨es', G2, hI, E2⟩
  obtain ⟨k, hk, h1, h2⟩ := hb B m es' hI
  refine ⟨B, es', k, hk, G2, E2, fun G3 H3 s3 => ?_⟩
  cases k with
  | true =>
    refine iteT ⟨fun σ H => ∃ m', m' < m ∧ ∃ es' G', I m' es' ∧ EnvA X.K B es' σ G' H, fun σ' H' ⟨m', h, r⟩ => ⟨m', h, r⟩, B, es', _, h1 rfl, G3, E2.step s3, ⟨fun es4 σ4 G4 H4 ⟨m', hm, hI4⟩ E4 => ⟨m', hm, es4, G4, hI4, E4⟩, fun v G4 H4 s4 hr => q.rt v G4 H4 s4 hr, fun v G4 H4 s4 hr => q.rn v G4 H4 s4 hr⟩⟩
  | false => exact iteF (q.nx es' σ2 G3 H3 (h2 rfl) (E2.step s3))
theorem ss_never {es : List Sl} (h : False) : PSl X B es sts O := h.elim
end

/-! ### defs -/
def slR : Sl → Rl
  | .dat A a => A.at a
  | _ => ⟨fun _ _ _ _ => True, fun _ _ => trivial⟩
def slD (K : PySem.W.Frag) (G : Hp) (v : V) : Sl → Prop
  | .dat A a => A.rel K G v a
  | _ => True
inductive SlA (K : PySem.W.Frag) (G : Hp) : List V → List Sl → Prop where
  | nil : SlA K G [] []
  | cons {v : V} {s : Sl} {vs : List V} {ss : List Sl} : slD K G v s → SlA K G vs ss → SlA K G (v :: vs) (s :: ss)
theorem SlA.length {K : PySem.W.Frag} {G : Hp} {vs : List V} {ss : List Sl} (h : SlA K G vs ss) : vs.length = ss.length := by
  induction h with
  | nil => rfl
  | cons _ _ ih => rw [List.length_cons, List.length_cons, ih]
theorem als_sl {K : PySem.W.Frag} {G H : Hp} : ∀ {ss : List Sl} {vs : List V}, Als K G H vs (ss.map slR) → SlA K G vs ss
  | [], _, h => by cases h; exact .nil
  | s :: ss, _, h => by
    cases h with
    | cons h t =>
      refine .cons ?_ (als_sl t)
      cases s with
      | dat A a => exact h
      | un => trivial
      | own O => trivial
      | fam F => trivial
/-- a promise: for the arguments that Ar tells, f's value -/
def spI (K : PySem.W.Frag) {ι β : Type} (Ar : ι → List Sl) (pre : ι → Prop) (A : Rp β) (f : ι → β) : Sp := fun vs H Q _ => ∃ G i, Same G H ∧ SlA K G vs (Ar i) ∧ pre i ∧ ∀ v G' H', Stp G H G' H' → A.rel K G' v (f i) → Q v H'
/-- the same of a def that may raise -/
def spE (K : PySem.W.Frag) {ι β κ : Type} (cls : κ → Addr) (Ar : ι → List Sl) (pre : ι → Prop) (A : Rp β) (f : ι → Except κ β) : Sp := fun vs H Q E => ∃ G i, Same G H ∧ SlA K G vs (Ar i) ∧ pre i ∧
  (∀ b, f i = .ok b → ∀ v G' H', Stp G H G' H' → A.rel K G' v b → Q v H') ∧ (∀ k, f i = .error k → ∀ H', Same H H' → E (.ref (cls k)) none H')
def NoO : List Sl → Prop
  | [] => True
  | s :: ss => (match s with
    | .own _ => False
    | .fam _ => False
    | _ => True) ∧ NoO ss
theorem slots_args {K : PySem.W.Frag} {G H : Hp} {B : Bs} : ∀ {ss : List Sl} {vs : List V} (n : Nat), NoO ss → SlA K G vs ss → Slots K B G H (ss ++ List.replicate n .un) (vs.map some ++ List.replicate n none) []
  | [], _, 0, _, .nil => .nil
  | [], _, n + 1, h, .nil => .un (slots_args (ss := []) n h .nil)
  | s :: ss, _, n, h, .cons r t => by
    have ih := slots_args (B := B) (H := H) n h.2 t
    cases s with
    | dat A a => exact .dat r ih
    | un => exact .un ih
    | own O => exact h.1.elim
    | fam F => exact h.1.elim
section
variable {P : Program} {w : World} {K : PySem.W.Frag} {mg : Str → Option Value} {base : Heap}
/-- as Fun.ok, for a def that may raise, the context known -/
theorem okXN {x qual : Str} {st : Stmt} {f : Addr} {fd : FuncData} {N ps : List Str} {k : Nat} {sp : Sp} (F : Fun K x qual st f fd) (S : FnScope N ps (defScope st)) (len : ∀ vs H Q E, sp vs H Q E → vs.length = ps.length)
    (hbody : ∀ (cdv : Value) (A : Around) (outer : List Env) (s : Shared) (H : Hp) (vs : List V) (Q : VK) (E : XK), Room k (A.deeper (envOfC qual (defScope st) s.heap.objs.size f cdv)) → sp vs H Q E →
      ∃ t, PSs (cxOf (L2N.CX P w) P w K mg base N qual (defScope st) f cdv A outer s H E) (defBody st) t ∧ t { nx := fun _ H' => Q .non H', rt := Q } (L2.start N vs) H) : FnOk P w K mg base (L2N.CX P w) (k + 1) f fd ps sp := by
  obtain ⟨oc, od, kV, doc, pm, an, cdv, ct, osl, rfl, lk, hcd⟩ := F.ex
  exact fn_of lk hcd S len fun A outer s H vs Q E hr hsp => hbody cdv A outer s H vs Q E hr hsp
/-- a def without an exception -/
theorem fn_pure {x qual : Str} {st : Stmt} {f : Addr} {fd : FuncData} {N ps : List Str} {k : Nat} {ι β : Type} {Ar : ι → List Sl} {pre : ι → Prop} {A : Rp β} {g : ι → β} (F : Fun K x qual st f fd) (S : FnScope N ps (defScope st)) (hl : ∀ i, (Ar i).length = ps.length) (hno : ∀ i, NoO (Ar i))
    (hbody : ∀ i, pre i → ∀ (cdv : Value) (Aa : Around) (outer : List Env) (s : Shared) (H : Hp) (E : XK) (B : Bs), Room k (Aa.deeper (envOfC qual (defScope st) s.heap.objs.size f cdv)) →
      PSl (cxOf CX0 P w K mg base N qual (defScope st) f cdv Aa outer s H E).nox B (Ar i ++ List.replicate (N.length - ps.length) .un) (defBody st) ⟨fun _ => ∀ G, A.rel K G .non (g i), fun G v => A.rel K G v (g i), fun _ _ _ => False⟩) : FnOk P w K mg base CX0 (k + 1) f fd ps (spI K Ar pre A g) := by
  refine F.ok S (fun vs H Q E h => ?_) (fun cdv Aa outer s H vs Q E hr h => ?_)
  · obtain ⟨G, i, _, r, _⟩ := h
    rw [r.length, hl]
  · obtain ⟨G, i, sm, r, hp, q⟩ := h
    refine ⟨_, hbody i hp cdv Aa outer s H E ⟨G, H⟩ hr, G, ⟨Stp.refl sm, [], ?_, List.nodup_nil⟩, ⟨fun es σ G' H' hn E' => q _ G' H' E'.st (hn G'), fun v G' H' s' hv => q v G' H' s' hv, fun _ _ _ _ z => z.elim⟩⟩
    unfold L2.start
    rw [r.length, hl]
    exact slots_args _ (hno i) r
/-- a def that may raise -/
theorem fn_exc {x qual : Str} {st : Stmt} {f : Addr} {fd : FuncData} {N ps : List Str} {k : Nat} {ι β κ : Type} {cls : κ → Addr} {Ar : ι → List Sl} {pre : ι → Prop} {A : Rp β} {g : ι → Except κ β} (F : Fun K x qual st f fd) (S : FnScope N ps (defScope st)) (hl : ∀ i, (Ar i).length = ps.length) (hno : ∀ i, NoO (Ar i))
    (hbody : ∀ i, pre i → ∀ (cdv : Value) (Aa : Around) (outer : List Env) (s : Shared) (H : Hp) (E : XK) (B : Bs), Room k (Aa.deeper (envOfC qual (defScope st) s.heap.objs.size f cdv)) → (∀ e, g i = .error e → ∀ H', Same B.H H' → E (.ref (cls e)) none H') →
      PSl (cxOf (L2N.CX P w) P w K mg base N qual (defScope st) f cdv Aa outer s H E) B (Ar i ++ List.replicate (N.length - ps.length) .un) (defBody st) ⟨fun _ => ∃ b, g i = .ok b ∧ ∀ G, A.rel K G .non b, fun G v => ∃ b, g i = .ok b ∧ A.rel K G v b, fun _ _ _ => False⟩) : FnOk P w K mg base (L2N.CX P w) (k + 1) f fd ps (spE K cls Ar pre A g) := by
  refine okXN F S (fun vs H Q E h => ?_) (fun cdv Aa outer s H vs Q E hr h => ?_)
  · obtain ⟨G, i, _, r, _⟩ := h
    rw [r.length, hl]
  · obtain ⟨G, i, sm, r, hp, q, qe⟩ := h
    refine ⟨_, hbody i hp cdv Aa outer s H E ⟨G, H⟩ hr qe, G, ⟨Stp.refl sm, [], ?_, List.nodup_nil⟩, ⟨fun es σ G' H' ⟨b, hb, hn⟩ E' => q b hb _ G' H' E'.st (hn G'), fun v G' H' s' ⟨b, hb, hv⟩ => q b hb v G' H' s' hv, fun _ _ _ _ z => z.elim⟩⟩
    unfold L2.start
    rw [r.length, hl]
    exact slots_args _ (hno i) r
/-- a def as a name of the module -/
structure Df (P : Program) (w : World) (K : PySem.W.Frag) (mg : Str → Option Value) (base : Heap) (CX : CXT) (x : Str) (ps : List Str) (k : Nat) (sp : Sp) : Prop where
  ex : ∃ f fd, FnOk P w K mg base CX k f fd ps sp ∧ mg x = some (.ref f) ∧ PySem.W.keepIn K (.ref f) = true ∧ Binds K fd ps []
/-- the same ahead of its promise -/
structure Top (K : PySem.W.Frag) (mg : Str → Option Value) (x : Str) (st : Stmt) (ps : List Str) : Prop where
  ex : ∃ f fd, Fun K x x st f fd ∧ mg x = some (.ref f) ∧ Binds K fd ps []
theorem Top.df {CX : CXT} {x : Str} {st : Stmt} {ps : List Str} {k : Nat} {sp : Sp} (T : Top K mg x st ps) (h : ∀ f fd, Fun K x x st f fd → FnOk P w K mg base CX k f fd ps sp) : Df P w K mg base CX x ps k sp :=
  let ⟨f, fd, F, m, b⟩ := T.ex; ⟨f, fd, h f fd F, m, F.kp, b⟩
theorem Df.mono {CX : CXT} {x : Str} {ps : List Str} {j k : Nat} {sp : Sp} (D : Df P w K mg base CX x ps j sp) (h : j ≤ k) : Df P w K mg base CX x ps k sp :=
  let ⟨f, fd, F, m, kp, b⟩ := D.ex; ⟨f, fd, F.mono h, m, kp, b⟩
end
section
variable {X : Cx} {B : Bs} {es : List Sl} {e : Expr} {as : List Expr} {x : Str} {p pos : Pos} {ps : List Str} {k : Nat} {ι β : Type} {Ar : ι → List Sl} {pre : ι → Prop} {A : Rp β}
/-- f(..), f without an exception -/
theorem pr_call {g : ι → β} {d : β} (D : Df X.prog X.w X.K X.mg X.base CX0 x ps k (spI X.K Ar pre A g)) (hr : Room k X.A) (i : ι) (ha : PAr X B es (e :: as) ((Ar i).map slR)) (hp : pre i) (hd : g i = d := by rfl) (hg : Gl X x := by rfl) (hdb : (x == ("__debug__" : Str)) = false := by decide) (he : starEach (e :: as) X.env = (false, eval e X.env) :: starEach as X.env := by rfl) (hpl : (backTo pos (starEach as X.env)).any (·.1) = false := by rfl) :
    PR X B es (.Call (.Name x p) (e :: as) [] pos) (A.at d) := by
  subst hd
  obtain ⟨f, fd, F, m, kp, b⟩ := D.ex
  exact pr_of (pe_call F hr hg m kp b .nil pass0 ha hdb he hpl) fun σ G H Q E q => ⟨G, E, fun vs G1 H1 s1 r1 => by
    show spI X.K Ar pre A g (vs ++ []) H1 Q E0
    rw [List.append_nil]
    exact ⟨G1, i, s1.gh, als_sl r1, hp, fun v G2 H2 s2 r2 => q v G2 H2 (s1.trans s2) r2⟩⟩
/-- an expression that may raise: r tells what comes -/
def tGX (K : PySem.W.Frag) (B : Bs) (es : List Sl) {κ : Type} (A : Rp β) (r : Except κ β) (EK : κ → Prop) : TE := fun σ H Q => ∃ G, EnvA K B es σ G H ∧ (∀ b, r = .ok b → ∀ v G' H', Stp G H G' H' → A.rel K G' v b → Q v H') ∧ ∀ e, r = .error e → EK e
abbrev PRX (X : Cx) (B : Bs) (es : List Sl) (e : Expr) {κ : Type} (A : Rp β) (r : Except κ β) (EK : κ → Prop) : Prop := PE X e (tGX X.K B es A r EK)
theorem pr_callX {κ : Type} {cls : κ → Addr} {g : ι → Except κ β} {d : Except κ β} {EX : XK} (D : Df X.prog X.w X.K X.mg X.base (L2N.CX X.prog X.w) x ps k (spE X.K cls Ar pre A g)) (hr : Room k X.A) (i : ι) (ha : PAr X B es (e :: as) ((Ar i).map slR)) (hp : pre i) (hx : Passes (L2N.CX X.prog X.w) X EX) (hd : g i = d := by rfl) (hg : Gl X x := by rfl) (hdb : (x == ("__debug__" : Str)) = false := by decide) (he : starEach (e :: as) X.env = (false, eval e X.env) :: starEach as X.env := by rfl) (hpl : (backTo pos (starEach as X.env)).any (·.1) = false := by rfl) :
    PRX X B es (.Call (.Name x p) (e :: as) [] pos) A d (fun e => ∀ H', Same B.H H' → EX (.ref (cls e)) none H') := by
  subst hd
  obtain ⟨f, fd, F, m, kp, b⟩ := D.ex
  exact pe_imp (pe_call F hr hg m kp b .nil hx ha hdb he hpl) fun σ H Q ⟨G, E, q, qe⟩ => ⟨G, E, fun vs G1 H1 s1 r1 => by
    show spE X.K cls Ar pre A g (vs ++ []) H1 Q EX
    rw [List.append_nil]
    exact ⟨G1, i, s1.gh, als_sl r1, hp, fun b hb v G2 H2 s2 r2 => q b hb v G2 H2 (s1.trans s2) r2, fun e he H' s => qe e he H' ((E.st.hh.trans s1.hh).trans s)⟩⟩
theorem prx_ok {κ : Type} {r : Except κ β} {EK : κ → Prop} {b : β} (h : PRX X B es e A r EK) (hr : r = .ok b) : PR X B es e (A.at b) :=
  pe_imp h fun σ H Q ⟨G, E, q⟩ => ⟨G, E, fun b' hb v G' H' s rv => q v G' H' s (by rw [hr] at hb; cases hb; exact rv), fun e he => by rw [hr] at he; cases he⟩
end
section
variable {X : Cx} {B : Bs} {es : List Sl} {sts : List Stmt} {O : Out} {e : Expr} {pos p' : Pos} {κ β : Type} {A : Rp β} {r : Except κ β} {EK : κ → Prop}
/-- x = e, e may raise: on the way that raises nothing is left but the wish -/
theorem ss_setX (i : Nat) {x : Str} (h : PRX X B es e A r EK) (ok : ∀ b, r = .ok b → PSl X B (es.set i (.dat A b)) sts O) (err : ∀ k, r = .error k → EK k) (hN : X.N.Nodup) (hi : X.N[i]? = some x := by rfl) (hx : Loc X.env.scope x := by first | exact Or.inl rfl | exact Or.inr rfl)
    (hs : swapsWith e (some (.Name x p')) pos.line X.env = pure false := by rfl) (hf : X.fn x = true ∨ X.env.scope.names.lookup x = some .local := by first | exact .inl rfl | exact .inr rfl | assumption) : PSl X B es (.Assign [.Name x p'] e pos :: sts) O := by
  cases hr : r with
  | ok b => exact ss_set i (prx_ok h hr) (ok b hr) hN hi hx hs hf
  | error k =>
    refine ss_seq (M := fun _ => False) (ps_imp (ps_set hN hi hx h hs hf) fun D σ H ⟨G, E, q⟩ => ⟨G, E, fun b hb => (by rw [hr] at hb; cases hb), err⟩) fun _ z => z.elim
theorem ss_exprX (h : PRX X B es e A r EK) (ok : ∀ b, r = .ok b → PSl X B es sts O) (err : ∀ k, r = .error k → EK k) (hs : swapsWith e none pos.line X.env = pure false := by rfl) : PSl X B es (.Expr e pos :: sts) O := by
  cases hr : r with
  | ok b => exact ss_expr (prx_ok h hr) (ok b hr) hs
  | error k =>
    refine ss_seq (M := fun _ => False) (ps_imp (ps_expr h hs) fun D σ H ⟨G, E, q⟩ => ⟨G, E, fun b hb => (by rw [hr] at hb; cases hb), err⟩) fun _ z => z.elim
theorem ss_retX (h : PRX X B es e A r EK) (ok : ∀ b, r = .ok b → ∀ G v, A.rel X.K G v b → O.rt G v) (err : ∀ k, r = .error k → EK k) : PSl X B es (.Return (some e) pos :: sts) O := by
  cases hr : r with
  | ok b => exact ss_ret (prx_ok h hr) (ok b hr)
  | error k =>
    refine ss_seq (M := fun _ => False) (ps_imp (ps_ret h) fun D σ H ⟨G, E, q⟩ => ⟨G, E, fun b hb => (by rw [hr] at hb; cases hb), err⟩) fun _ z => z.elim
theorem ss_pairX (i j : Nat) {x y : Str} {α : Type} {A : Rp α} {C : Rp β} {r : Except κ (α × β)} {p1 p2 tp : Pos} {k : Nat} (h : PRX X B es e (A.pair C) r EK) (ok : ∀ d, r = .ok d → PSl X B ((es.set i (.dat A d.1)).set j (.dat C d.2)) sts O) (err : ∀ k, r = .error k → EK k) (hc : X.calm = true) (hN : X.N.Nodup)
    (tg : PG X (.Tuple [.Name x p1, .Name y p2] k tp) (tTgt X.K (A.pair C) (uP A C i j) [i, j]))
    (hs : swapsWithSole [.Tuple [.Name x p1, .Name y p2] k tp] e pos.line X.env = pure false := by rfl) (hw : swappedStores [.Tuple [.Name x p1, .Name y p2] k tp] e X.env = pure none := by rfl)
    (h1 : (assignEach [.Tuple [.Name x p1, .Name y p2] k tp] X.env).map (·.2) = [assign (.Tuple [.Name x p1, .Name y p2] k tp) X.env] := by rfl) : PSl X B es (.Assign [.Tuple [.Name x p1, .Name y p2] k tp] e pos :: sts) O := by
  cases hr : r with
  | ok b => exact ss_pair i j (prx_ok h hr) (ok b hr) hc hN tg hs hw h1
  | error k =>
    refine ss_seq (M := fun _ => False) (ps_imp (ps_asg h tg hs hw h1) fun D σ H ⟨G, E, q⟩ => ⟨G, E, fun b hb => (by rw [hr] at hb; cases hb), err⟩) fun _ z => z.elim
/-- raise X('..') -/
theorem ss_raise {W : WX} {C : Addr} (hc : X.calm = true) (tk : L2N.Takes X W) (he : L2N.PMk X e (fun _ H Q => Q (.ref C) none H)) (h : ∀ σ H, Same B.H H → W (.ref C) none σ H) : PSl X B es (.Raise (some e) none pos :: sts) O :=
  ss_seq (M := fun _ => False) (ps_imp (L2N.ps_raise hc tk he) fun D σ H ⟨G, E, q⟩ => h σ H E.st.hh) fun _ z => z.elim
end
end Rw
namespace Rw
open PySem PyProof.Rows L2
/-! ### promises that tell a relation; lists popped; the truth of a list -/
def rX {β : Type} (A : Rp β) (φ : β → Prop) : Rl := ⟨fun K G _ v => ∃ b, φ b ∧ A.rel K G v b, fun s ⟨b, h, r⟩ => ⟨b, h, A.mono s.gg r⟩⟩
def spR (K : PySem.W.Frag) {ι β : Type} (Ar : ι → List Sl) (pre : ι → Prop) (A : Rp β) (post : ι → β → Prop) : Sp := fun vs H Q _ => ∃ G i, Same G H ∧ SlA K G vs (Ar i) ∧ pre i ∧ ∀ b, post i b → ∀ v G' H', Stp G H G' H' → A.rel K G' v b → Q v H'
section
variable {P : Program} {w : World} {K : PySem.W.Frag} {mg : Str → Option Value} {base : Heap}
theorem fn_rel {x qual : Str} {st : Stmt} {f : Addr} {fd : FuncData} {N ps : List Str} {k : Nat} {ι β : Type} {Ar : ι → List Sl} {pre : ι → Prop} {A : Rp β} {post : ι → β → Prop} (F : Fun K x qual st f fd) (S : FnScope N ps (defScope st)) (hl : ∀ i, (Ar i).length = ps.length) (hno : ∀ i, NoO (Ar i))
    (hbody : ∀ i, pre i → ∀ (cdv : Value) (Aa : Around) (outer : List Env) (s : Shared) (H : Hp) (E : XK) (B : Bs), Room k (Aa.deeper (envOfC qual (defScope st) s.heap.objs.size f cdv)) →
      PSl (cxOf CX0 P w K mg base N qual (defScope st) f cdv Aa outer s H E).nox B (Ar i ++ List.replicate (N.length - ps.length) .un) (defBody st) ⟨fun _ => False, fun G v => ∃ b, post i b ∧ A.rel K G v b, fun _ _ _ => False⟩) : FnOk P w K mg base CX0 (k + 1) f fd ps (spR K Ar pre A post) := by
  refine F.ok S (fun vs H Q E h => ?_) (fun cdv Aa outer s H vs Q E hr h => ?_)
  · obtain ⟨G, i, _, r, _⟩ := h
    rw [r.length, hl]
  · obtain ⟨G, i, sm, r, hp, q⟩ := h
    refine ⟨_, hbody i hp cdv Aa outer s H E ⟨G, H⟩ hr, G, ⟨Stp.refl sm, [], ?_, List.nodup_nil⟩, ⟨fun es σ G' H' hn E' => hn.elim, fun v G' H' s' ⟨b, hb, hv⟩ => q b hb v G' H' s' hv, fun _ _ _ _ z => z.elim⟩⟩
    unfold L2.start
    rw [r.length, hl]
    exact slots_args _ (hno i) r
end
section
variable {X : Cx} {B : Bs} {es : List Sl} {sts : List Stmt} {O : Out} {e : Expr} {as : List Expr} {x : Str} {p p' pos : Pos} {ps : List Str} {k : Nat} {ι β : Type} {Ar : ι → List Sl} {pre : ι → Prop} {A : Rp β} {φ : β → Prop}
theorem pr_callR {post : ι → β → Prop} (D : Df X.prog X.w X.K X.mg X.base CX0 x ps k (spR X.K Ar pre A post)) (hr : Room k X.A) (i : ι) (ha : PAr X B es (e :: as) ((Ar i).map slR)) (hp : pre i) (hg : Gl X x := by rfl) (hdb : (x == ("__debug__" : Str)) = false := by decide) (he : starEach (e :: as) X.env = (false, eval e X.env) :: starEach as X.env := by rfl) (hpl : (backTo pos (starEach as X.env)).any (·.1) = false := by rfl) :
    PR X B es (.Call (.Name x p) (e :: as) [] pos) (rX A (post i)) := by
  obtain ⟨f, fd, F, m, kp, b⟩ := D.ex
  exact pr_of (pe_call F hr hg m kp b .nil pass0 ha hdb he hpl) fun σ G H Q E q => ⟨G, E, fun vs G1 H1 s1 r1 => by
    show spR X.K Ar pre A post (vs ++ []) H1 Q E0
    rw [List.append_nil]
    exact ⟨G1, i, s1.gh, als_sl r1, hp, fun b hb v G2 H2 s2 r2 => q v G2 H2 (s1.trans s2) ⟨b, hb, r2⟩⟩⟩
theorem ss_setE (i : Nat) (h : PR X B es e (rX A φ)) (r : ∀ d, φ d → PSl X B (es.set i (.dat A d)) sts O) (hN : X.N.Nodup) (hi : X.N[i]? = some x := by rfl) (hx : L2.Loc X.env.scope x := by first | exact Or.inl rfl | exact Or.inr rfl)
    (hs : swapsWith e (some (.Name x p')) pos.line X.env = pure false := by rfl) (hf : X.fn x = true ∨ X.env.scope.names.lookup x = some .local := by first | exact .inl rfl | exact .inr rfl | assumption) : PSl X B es (.Assign [.Name x p'] e pos :: sts) O :=
  ss_seq (M := fun es' => ∃ d, φ d ∧ es' = es.set i (.dat A d)) (ps_imp (ps_set hN hi hx h hs hf) fun D σ H ⟨G, E, q⟩ => ⟨G, E, fun v G' H' s ⟨d, hd, rv⟩ => q.nx _ _ G' H' ⟨d, hd, rfl⟩ ((E.step s).setD rv)⟩) fun _ ⟨d, hd, e⟩ => e ▸ r d hd
theorem ss_retE (h : PR X B es e (rX A φ)) (k : ∀ d, φ d → ∀ G v, A.rel X.K G v d → O.rt G v) : PSl X B es (.Return (some e) pos :: sts) O :=
  ss_seq (M := fun _ => False) (ps_imp (ps_ret h) fun D σ H ⟨G, E, q⟩ => ⟨G, E, fun v G' H' s ⟨d, hd, r⟩ => q.rt v G' H' (E.st.trans s) (k d hd G' v r)⟩) fun _ h => h.elim
/-- x = y.pop() -/
theorem ss_pop (i j : Nat) {y : Str} {α : Type} {A : Rp α} {xs : List α} {d : α} {np apos cpos : Pos} (r : PSl X B ((es.set j (.own (.lst A xs))).set i (.dat A d)) sts O) (hNd : X.N.Nodup) (hj : es[j]? = some (.own (.lst A (xs ++ [d]))) := by rfl) (hN : X.N[j]? = some y := by rfl) (hi : X.N[i]? = some x := by rfl) (hx : L2.Loc X.env.scope x := by first | exact Or.inl rfl | exact Or.inr rfl)
    (hv : Vis X.env.scope y := by first | exact Or.inl rfl | exact Or.inr (Or.inl rfl) | exact Or.inr (Or.inr rfl)) (hd : (y == ("__debug__" : Str)) = false := by decide) (hcd : (y == ("__classdict__" : Str)) = false := by decide)
    (hbase : attributeBase (.Name y np) "pop" X.env (eval (.Name y np) X.env) = eval (.Name y np) X.env := by rfl) (hline : (apos.endLine == cpos.line) = true := by rfl)
    (hs : swapsWith (.Call (.Attribute (.Name y np) "pop" apos) [] [] cpos) (some (.Name x p')) pos.line X.env = pure false := by rfl) (hf : X.fn x = true ∨ X.env.scope.names.lookup x = some .local := by first | exact .inl rfl | exact .inr rfl | assumption) :
    PSl X B es (.Assign [.Name x p'] (.Call (.Attribute (.Name y np) "pop" apos) [] [] cpos) pos :: sts) O :=
  ss_do (ps_set hNd hi hx (pe_bm0 PySem.F.plainAttrs_list PySem.F.slot_list_pop PySem.F.type_list_pop mt_pop (pe_var hN hv hd hcd) hbase hline) hs hf)
    (fun D σ G H E q => by
      obtain ⟨p, o, e1, h1, ⟨vs, eo, rv, zv⟩, h2, h3⟩ := E.getO hj
      subst eo
      have hl : vs.length = xs.length + 1 := by rw [rv.length, List.length_append]; rfl
      have e0 : vs.length - 1 = xs.length := by omega
      obtain ⟨u, hu, ru⟩ := pget rv (i := xs.length) (b := d) (by simp)
      refine ⟨_, e1, .inl ⟨rfl, _, SqL.of h1⟩, p, vs, u, rfl, rfl, h1, by rw [e0]; exact hu, ?_⟩
      have hdl : vs.dropLast = vs.take xs.length := by rw [List.dropLast_eq_take, e0]
      refine q _ G _ ((E.mut hj e1 (O' := .lst A xs) ⟨vs.dropLast, rfl, ?_, ?_⟩).setD ru)
      · rw [hdl]
        have := ptake xs.length rv
        rwa [List.take_left] at this
      · rw [List.length_append] at zv; omega) r
/-- x = y.pop(0) -/
theorem ss_pop0 (i j : Nat) {y : Str} {α : Type} {A : Rp α} {xs : List α} {d : α} {np apos cpos ip : Pos} {jj} (r : PSl X B ((es.set j (.own (.lst A xs))).set i (.dat A d)) sts O) (hNd : X.N.Nodup) (hj : es[j]? = some (.own (.lst A (d :: xs))) := by rfl) (hN : X.N[j]? = some y := by rfl) (hi : X.N[i]? = some x := by rfl) (hx : L2.Loc X.env.scope x := by first | exact Or.inl rfl | exact Or.inr rfl)
    (hv : Vis X.env.scope y := by first | exact Or.inl rfl | exact Or.inr (Or.inl rfl) | exact Or.inr (Or.inr rfl)) (hd : (y == ("__debug__" : Str)) = false := by decide) (hcd : (y == ("__classdict__" : Str)) = false := by decide)
    (hbase : attributeBase (.Name y np) "pop" X.env (eval (.Name y np) X.env) = eval (.Name y np) X.env := by rfl)
    (hfew : ((backTo cpos (starEach (.Constant (.int 0) jj ip :: []) X.env)).all (fun x => !x.1) && (backToKw cpos (keywordEach [] X.env)).all (fun x => x.1.isSome) && decide ((Expr.Constant (.int 0) jj ip :: []).length + ([] : List Keyword).length + (if ([] : List Keyword).isEmpty then 0 else 1) < 30)) = true := by rfl)
    (hline : (apos.endLine == cpos.line) = true := by rfl) (hst : starEach (.Constant (.int 0) jj ip :: []) X.env = (false, eval (.Constant (.int 0) jj ip) X.env) :: starEach [] X.env := by rfl) (hplain : (backTo cpos (starEach [] X.env)).any (·.1) = false := by rfl)
    (hs : swapsWith (.Call (.Attribute (.Name y np) "pop" apos) [.Constant (.int 0) jj ip] [] cpos) (some (.Name x p')) pos.line X.env = pure false := by rfl) (hf : X.fn x = true ∨ X.env.scope.names.lookup x = some .local := by first | exact .inl rfl | exact .inr rfl | assumption) :
    PSl X B es (.Assign [.Name x p'] (.Call (.Attribute (.Name y np) "pop" apos) [.Constant (.int 0) jj ip] [] cpos) pos :: sts) O :=
  ss_do (ps_set hNd hi hx (pe_bm PySem.F.plainAttrs_list PySem.F.slot_list_pop PySem.F.type_list_pop mt_popAt (pe_var hN hv hd hcd) (pa_cons pe_int pa_nil hst) hbase hfew hline hst hplain) hs hf)
    (fun D σ G H E q => by
      obtain ⟨p, o, e1, h1, ⟨vs, eo, rv, zv⟩, h2, h3⟩ := E.getO hj
      subst eo
      cases rv with
      | @cons u _ vs' _ ru rv' =>
        refine ⟨_, e1, .inl ⟨rfl, _, SqL.of h1⟩, p, _, 0, 0, u, rfl, rfl, h1, by decide, by decide, ?_, rfl, ?_⟩
        · unfold seqIndex?
          simp
        · refine q _ G _ ((E.mut hj e1 (O' := .lst A xs) ⟨vs', rfl, rv', ?_⟩).setD ru)
          rw [List.length_cons] at zv; omega) r
/-- if xs:, while xs:, xs a list that slot i owns -/
theorem pb_ownL (i : Nat) {α : Type} {A : Rp α} {xs : List α} (he : es[i]? = some (.own (.lst A xs)) := by rfl) (hN : X.N[i]? = some x := by rfl) (hv : Vis X.env.scope x := by first | exact Or.inl rfl | exact Or.inr (Or.inl rfl) | exact Or.inr (Or.inr rfl)) (hd : (x == ("__debug__" : Str)) = false := by decide) (hcd : (x == ("__classdict__" : Str)) = false := by decide)
    (hw : ∀ whole, isTrue (.Name x pos) X.env whole = (do let v ← whole; standAt (Expr.Name x pos).pos; holding [v] (truthy v)) := by intro _; rfl) : PB X B es (.Name x pos) (!xs.isEmpty) :=
  pt_imp (pt_truth (pe_var hN hv hd hcd) hw) fun σ H Q ⟨G, E, q⟩ => by
    obtain ⟨p, o, e1, h1, ⟨vs, eo, rv, zv⟩, h2, h3⟩ := E.getO he
    subst eo
    refine ⟨_, e1, !xs.isEmpty, ?_, q G H (Stp.refl E.same)⟩
    refine .inl ⟨vs, SqL.of h1, ?_⟩
    cases rv <;> rfl
end
end Rw

/-! RwN: dicts whose keys are rules (a name, a tuple of parts), owned by a slot -/
namespace Rw
open PySem PySem.Spec PyProof.Rows L2

abbrev rRule : Rp Rule := Rp.str.pair Rp.str.tup
def nkey (r : Rule) : NestedKey := .tup [.text r.1, .tup (r.2.map .text)]
theorem text_inj : ∀ {a b : List Str}, a.map NestedKey.text = b.map NestedKey.text → a = b
  | [], [], _ => rfl
  | [], _ :: _, h => by cases h
  | _ :: _, [], h => by cases h
  | x :: a, y :: b, h => by
    rw [List.map_cons, List.map_cons] at h
    injection h with h1 h2
    injection h1 with h1
    rw [h1, text_inj h2]
theorem nkey_inj {a b : Rule} (h : nkey a = nkey b) : a = b := by
  unfold nkey at h
  injection h with h
  injection h with h1 h2
  injection h1 with h1
  injection h2 with h2 _
  injection h2 with h2
  exact Prod.ext h1 (text_inj h2)
theorem depth_texts : ∀ l : List Str, NestedKey.depthAll (l.map .text) = 0
  | [] => rfl
  | x :: l => by rw [List.map_cons, NestedKey.depthAll, depth_texts l]; rfl
theorem nkey_depth (r : Rule) : (nkey r).depth ≤ 8 := by
  unfold nkey
  simp only [NestedKey.depth, NestedKey.depthAll, depth_texts]
  decide
/-- the tuple at q is the rule r -/
def NK (K : PySem.W.Frag) (H : Hp) (q : Addr) (r : Rule) : Prop := ∃ q2, SqT K H q [.str r.1, .ref q2] ∧ SqT K H q2 (r.2.map V.str)
theorem nk_of {K : PySem.W.Frag} {G H : Hp} {v : V} {r : Rule} (s : Same G H) (h : (rRule.at r).r K G H v) : ∃ q, v = .ref q ∧ NK K H q r := by
  obtain ⟨p, u, w, rfl, h1, ⟨rfl, _⟩, q2, vs, rfl, h2, rp, _⟩ := h
  have e : vs = r.2.map V.str := pmap_eq (pmono (fun _ _ q => q.1) rp)
  subst e
  exact ⟨p, rfl, q2, same_t s h1, same_t s h2⟩
theorem nested_strs {h : Heap} : ∀ {l : List Str} {us : List Value}, Vals (l.map V.str) us → NestedAll h (l.map .text) us
  | [], _, r => by cases r; exact .nil
  | x :: l, _, r => by
    cases r with
    | cons r t =>
      obtain ⟨tk, rfl⟩ := r
      exact .cons (.text x tk) (nested_strs t)
theorem nk_is {X : Cx} {pins : List (Addr × Obj)} {σ : L2.St} {H : Hp} {s : Shared} (I : Inv X pins σ H s) {q : Addr} {r : Rule} (h : NK X.K H q r) : (nestedKind X.prog X.w).is s.heap (nkey r) q := by
  obtain ⟨q2, h1, h2⟩ := h
  obtain ⟨its, rv, ⟨o, ho, hc, n, hd⟩, _⟩ := I.tuple h1
  obtain ⟨its2, rv2, ⟨o2, ho2, hc2, n2, hd2⟩, _⟩ := I.tuple h2
  obtain ⟨u, v, rfl, ⟨tk, rfl⟩, r2⟩ := rv.two
  obtain rfl : v = .ref q2 := r2
  refine ⟨.tup ho hc hd ?_, nkey_depth r⟩
  exact .cons (.text _ tk) (.cons (.tup ho2 hc2 hd2 (by simpa using nested_strs rv2)) .nil)
/-- the raw dict at d -/
def rawN (P : Program) (w : World) (d : Addr) (xs : List (NestedKey × Addr × Value)) (h : Heap) : Prop :=
  ∃ o es ep, h.get? d = some o ∧ o.ExactDict ∧ o.data = .dict es ep ∧ es.toList = xs.map (entryOfKey (nestedKind P w)) ∧ (xs.map (·.1)).Nodup
def extN (P : Program) (w : World) (d : Addr) (xs : List (NestedKey × Addr × Value)) : HO := .ext (rawN P w d xs)
/-- what the entries are -/
abbrev NP {α : Type} (K : PySem.W.Frag) (G : Hp) (A : Rp α) : List (NestedKey × Addr × Value) → List (Rule × α) → Prop :=
  Paired fun x kv => x.1 = nkey kv.1 ∧ rRule.rel K G (.ref x.2.1) kv.1 ∧ ∃ v, RelV v x.2.2 ∧ A.rel K G v kv.2
def Oc.dcn {α : Type} (P : Program) (w : World) (A : Rp α) (kvs : List (Rule × α)) : Oc := ⟨fun K G p o => ∃ xs, o = extN P w p xs ∧ NP K G A xs kvs ∧ kvs.length ≤ sizeLine ∧ (p == sysModules) = false,
  fun s ⟨xs, e, r, z, y⟩ => ⟨xs, e, pmono (fun _ _ ⟨h1, h2, v, h3, h4⟩ => ⟨h1, rRule.mono s h2, v, h3, A.mono s h4⟩) r, z, y⟩⟩
/-- the dict that may be read -/
def rN {α : Type} (P : Program) (w : World) (A : Rp α) (kvs : List (Rule × α)) : Rl := ⟨fun K G H v => ∃ p xs, v = .ref p ∧ H p = some (extN P w p xs) ∧ NP K G A xs kvs ∧ kvs.length ≤ sizeLine ∧ (p == sysModules) = false,
  fun s ⟨p, xs, e, h, r, z, y⟩ => ⟨p, xs, e, s.hh _ _ h, pmono (fun _ _ ⟨h1, h2, v, h3, h4⟩ => ⟨h1, rRule.mono s.gg h2, v, h3, A.mono s.gg h4⟩) r, z, y⟩⟩
section
variable {α : Type} {K : PySem.W.Frag} {G : Hp} {A : Rp α} {xs : List (NestedKey × Addr × Value)} {kvs : List (Rule × α)}
theorem np_get (h : NP K G A xs kvs) (k : Rule) : (∀ a, dget kvs k = some a → ∃ q v u, atKey xs (nkey k) = some (q, u) ∧ RelV v u ∧ A.rel K G v a) ∧ (dget kvs k = none → atKey xs (nkey k) = none) := by
  induction h with
  | nil => exact ⟨fun a e => (by cases e), fun _ => rfl⟩
  | @cons x kv xs' ks' h t ih =>
    obtain ⟨h1, h2, v, h3, h4⟩ := h
    rw [dget_cons]
    have e2 : atKey (x :: xs') (nkey k) = if x.1 = nkey k then some x.2 else atKey xs' (nkey k) := by
      unfold atKey
      rw [List.find?_cons]
      by_cases c : x.1 = nkey k
      · simp [c]
      · simp [c]
    rw [e2]
    by_cases c : kv.1 = k
    · rw [if_pos c, if_pos (by rw [h1, c])]
      exact ⟨fun a q => by cases q; exact ⟨x.2.1, v, x.2.2, rfl, h3, h4⟩, fun q => by cases q⟩
    · rw [if_neg c, if_neg (by rw [h1]; exact fun q => c (nkey_inj q))]
      exact ih
theorem np_has (h : NP K G A xs kvs) (k : Rule) : (atKey xs (nkey k)).isSome = dhas kvs k := by
  rw [← dget_isSome]
  obtain ⟨h1, h2⟩ := np_get h k
  cases e : dget kvs k with
  | none => rw [h2 e]; rfl
  | some a => obtain ⟨q, v, u, h3, _⟩ := h1 a e; rw [h3]; rfl
theorem np_put (h : NP K G A xs kvs) {k : Rule} {q : Addr} {v : V} {u : Value} {a : α} (hq : rRule.rel K G (.ref q) k) (r : RelV v u) (ra : A.rel K G v a) : NP K G A (storedH xs (nkey k) q u) (dput kvs k a) := by
  have e : (atKey xs (nkey k)).isSome = dhas kvs k := np_has h k
  unfold storedH dput
  rw [e]
  by_cases c : dhas kvs k = true
  · rw [if_pos c, if_pos c]
    clear e c
    induction h with
    | nil => exact .nil
    | @cons x kv _ _ h t ih =>
      obtain ⟨h1, h2, w, h3, h4⟩ := h
      refine .cons ?_ ih
      unfold putAt
      by_cases c : kv.1 = k
      · have c2 : x.1 = nkey k := by rw [h1, c]
        simp only [c, c2, if_true]
        exact ⟨trivial, c ▸ h2, v, r, ra⟩
      · have c2 : ¬ x.1 = nkey k := by rw [h1]; exact fun q => c (nkey_inj q)
        simp only [c, c2, if_false]
        exact ⟨h1, h2, w, h3, h4⟩
  · rw [if_neg c, if_neg c]
    exact h.snoc ⟨rfl, hq, v, r, ra⟩
theorem np_keys (h : NP K G A xs kvs) : Paired (rRule.rel K G) (xs.map fun x => V.ref x.2.1) (kvs.map (·.1)) := by
  induction h with
  | nil => exact .nil
  | cons h _ ih => exact .cons h.2.1 ih
/-- the entries' keys stand as keys -/
theorem np_is {X : Cx} {pins : List (Addr × Obj)} {σ : L2.St} {H : Hp} {s : Shared} (I : Inv X pins σ H s) (sm : Same G H) (h : NP X.K G A xs kvs) : ∀ x ∈ xs, (nestedKind X.prog X.w).is s.heap x.1 x.2.1 := by
  induction h with
  | nil => intro x hx; cases hx
  | @cons x kv _ _ h t ih =>
    intro y hy
    rcases List.mem_cons.mp hy with e | e
    · subst e
      obtain ⟨h1, h2, _⟩ := h
      obtain ⟨q, e, k⟩ := nk_of (K := X.K) (G := G) (H := H) sm (show (rRule.at kv.1).r X.K G H _ from h2)
      cases e
      rw [h1]
      exact nk_is I k
    · exact ih y e
end
theorem HOk.rawN {P : Program} {w : World} {H : Hp} {h : Heap} {d : Addr} {xs : List (NestedKey × Addr × Value)} (ok : HOk P w H h) (e : H d = some (extN P w d xs)) : Rw.rawN P w d xs h := (ok d _ e).1
theorem rawN_ok {P : Program} {w : World} {H : Hp} {h : Heap} {d : Addr} {xs : List (NestedKey × Addr × Value)} (r : Rw.rawN P w d xs h) : ObjOk P w H h d (extN P w d xs) := by
  refine ⟨r, let ⟨o, _, _, e, _⟩ := r; ⟨o, e⟩, fun h1 h2 ⟨o, es, ep, e1, e2, e3, e4, e5⟩ k => ⟨o, es, ep, k o e1, e2, e3, e4, e5⟩⟩
section
variable {X : Cx} {pins : List (Addr × Obj)} {σ : L2.St} {G H : Hp} {s : Shared} {α : Type} {A : Rp α} {xs : List (NestedKey × Addr × Value)} {kvs : List (Rule × α)} {d : Addr}
theorem dictN (I : Inv X pins σ H s) (sm : Same G H) (h : NP X.K G A xs kvs) (e : H d = some (extN X.prog X.w d xs)) : s.heap.DictOfH (nestedKind X.prog X.w) d xs := by
  obtain ⟨o, es, ep, e1, e2, e3, e4, e5⟩ := HOk.rawN I.hok e
  exact ⟨o, es, ep, e1, e2, e3, e4, np_is I sm h, e5⟩
end
section
variable {X : Cx} {B : Bs} {es : List Sl} {sts : List Stmt} {O : Out} {e a b : Expr} {pos p' np : Pos} {α : Type} {A : Rp α} {kvs : List (Rule × α)} {k : Rule}
theorem room8 {A : Around} (hu : A.units + 16 < cLine) (P : Program) (w : World) : (nestedKind P w).room A.in1 := by
  show A.units + 1 + 8 < cLine
  omega
theorem op_inN (hu : X.A.units + 16 < cLine) (G0 : Hp → Hp → Prop) : OpR X (compareOp .In) (fun x y H Q => ∃ q r d xs G kvs, x = .ref q ∧ NK X.K H q r ∧ y = .ref d ∧ H d = some (extN X.prog X.w d xs) ∧ Same G H ∧ NP X.K G A xs kvs ∧ (d == sysModules) = false ∧ Q (.bl (dhas kvs r)) H) := by
  intro pins s σ H x y v u Q I rx ry h
  obtain ⟨q, r, d, xs, G, kvs, rfl, hk, rfl, hd, sm, np, hs, q⟩ := h
  cases rx
  cases ry
  refine wpAny_in_heap (room8 hu _ _) (nk_is I hk) hs (dictN I sm np hd) ?_
  rw [np_has np r]
  exact ⟨.bl _, H, I.tok _, rfl, q⟩
theorem op_niN (hu : X.A.units + 16 < cLine) (G0 : Hp → Hp → Prop) : OpR X (compareOp .NotIn) (fun x y H Q => ∃ q r d xs G kvs, x = .ref q ∧ NK X.K H q r ∧ y = .ref d ∧ H d = some (extN X.prog X.w d xs) ∧ Same G H ∧ NP X.K G A xs kvs ∧ (d == sysModules) = false ∧ Q (.bl (!dhas kvs r)) H) := by
  intro pins s σ H x y v u Q I rx ry h
  obtain ⟨q, r, d, xs, G, kvs, rfl, hk, rfl, hd, sm, np, hs, q⟩ := h
  cases rx
  cases ry
  refine wpAny_notIn_heap (room8 hu _ _) (nk_is I hk) hs (dictN I sm np hd) ?_
  rw [np_has np r]
  exact ⟨.bl _, H, I.tok _, rfl, q⟩
theorem cmp_inN (hu : X.A.units + 16 < cLine) : Cmp X .In (rRule.at k) (rN X.prog X.w A kvs) (dhas kvs k) := ⟨_, op_inN (A := A) hu (fun _ _ => True), fun G H x y Q s hx ⟨p, xs, e, h, r, z, m⟩ q => by
  obtain ⟨p1, rfl, hk⟩ := nk_of s hx
  exact ⟨p1, k, p, xs, G, kvs, rfl, hk, e, h, s, r, m, q _ G H (Stp.refl s) rfl⟩⟩
theorem cmp_niN (hu : X.A.units + 16 < cLine) : Cmp X .NotIn (rRule.at k) (rN X.prog X.w A kvs) (!dhas kvs k) := ⟨_, op_niN (A := A) hu (fun _ _ => True), fun G H x y Q s hx ⟨p, xs, e, h, r, z, m⟩ q => by
  obtain ⟨p1, rfl, hk⟩ := nk_of s hx
  exact ⟨p1, k, p, xs, G, kvs, rfl, hk, e, h, s, r, m, q _ G H (Stp.refl s) rfl⟩⟩
theorem ixr_N (hu : X.A.units + 16 < cLine) : IxR X (fun x y H Q => ∃ q r d xs G kvs v, y = .ref q ∧ NK X.K H q r ∧ x = .ref d ∧ H d = some (extN X.prog X.w d xs) ∧ Same G H ∧ NP X.K G A xs kvs ∧ dget kvs r = some v ∧ ∀ u, A.rel X.K G u v → Q u H) := by
  intro value slice pins s σ H x y v u Q I rx ry h hs
  obtain ⟨q, r, d, xs, G, kvs, v, rfl, hk, rfl, hd, sm, np, hv, q⟩ := h
  cases rx
  cases ry
  have D := dictN I sm np hd
  obtain ⟨p1, w1, u1, h1, h2, h3⟩ := (np_get np r).1 v hv
  exact PyProof.Rows.subscriptTail_builtinR (x := u1) D.typeIs PySem.F.slot_dict_getitem.lookup (wpAny_getItem_heap (Q := fun r s' => r = u1 ∧ EP X pins σ Q r s') (room8 hu _ _) (nk_is I hk) D h1 ⟨rfl, w1, H, I.tok _, h2, q w1 h3⟩) hs
theorem ix_N {v : α} (hu : X.A.units + 16 < cLine) (h : dget kvs k = some v) : Ix X (rN X.prog X.w A kvs) (rRule.at k) (A.at v) := ⟨_, ixr_N (A := A) hu, fun G H x y Q s ⟨p, xs, e, h1, r, z, m⟩ hy q => by
  obtain ⟨p1, rfl, hk⟩ := nk_of s hy
  exact ⟨p1, k, p, xs, G, kvs, v, rfl, hk, e, h1, s, r, h, fun u hu => q u G H (Stp.refl s) hu⟩⟩
/-- a dict of rules that a slot owns, read -/
theorem pr_ownN (i : Nat) {x : Str} (hN : X.N[i]? = some x := by rfl) (he : es[i]? = some (.own (.dcn X.prog X.w A kvs)) := by rfl)
    (hv : Vis X.env.scope x := by first | exact Or.inl rfl | exact Or.inr (Or.inl rfl) | exact Or.inr (Or.inr rfl)) (hd : (x == ("__debug__" : Str)) = false := by decide)
    (hcd : (x == ("__classdict__" : Str)) = false := by decide) : PR X B es (.Name x pos) (rN X.prog X.w A kvs) :=
  pr_of (pe_var hN hv hd hcd) fun σ G H Q E q => by
    obtain ⟨p, o, e, h1, ⟨xs, eo, r, z, y⟩, _, _⟩ := E.getO he
    subst eo
    exact ⟨_, e, q _ G H (Stp.refl E.same) ⟨p, xs, rfl, h1, r, z, y⟩⟩
/-- x = {} -/
theorem pe_dnewN : PE X (.Dict [] [] pos) (fun _ H Q => ∀ p, H p = none → (p == sysModules) = false → Q (.ref p) (upd H p (extN X.prog X.w p []))) := ⟨fun pins s σ H Q I h => by
  have hb : (s.heap.objs.size == sysModules) = false := beq_eq_false_iff_ne.mpr (Ne.symm (Nat.ne_of_lt I.big))
  refine wpAny_Dict_empty ⟨.ref s.heap.objs.size, _, I.laid (a := s.heap.objs.size) (o := extN X.prog X.w s.heap.objs.size []) (t' := s.toks) (fun _ _ q => Heap.get?_push_of_some _ q) (Nat.le_refl _) ?_, rfl, h _ (I.hok.fresh (Nat.le_refl _)) hb⟩
  exact rawN_ok ⟨_, #[], 0, Heap.get?_push_size _ rfl, ⟨rfl, rfl, rfl⟩, rfl, rfl, List.nodup_nil⟩⟩
theorem ss_ownN (i : Nat) {x : Str} (A : Rp α) {lp : Pos} (r : PSl X B (es.set i (.own (.dcn X.prog X.w A []))) sts O) (hN : X.N.Nodup) (hi : X.N[i]? = some x := by rfl) (hx : L2.Loc X.env.scope x := by first | exact Or.inl rfl | exact Or.inr rfl)
    (hs : swapsWith (.Dict [] [] lp) (some (.Name x p')) pos.line X.env = pure false := by rfl) (hf : X.fn x = true ∨ X.env.scope.names.lookup x = some .local := by first | exact .inl rfl | exact .inr rfl | assumption) : PSl X B es (.Assign [.Name x p'] (.Dict [] [] lp) pos :: sts) O :=
  ss_do (ps_set hN hi hx pe_dnewN hs hf) (fun D σ G H E q p hp hm => q _ G _ (E.fresh (O := .dcn X.prog X.w A []) hp ⟨[], rfl, .nil, Nat.zero_le _, hm⟩)) r
/-- the keys of a dict of rules as a list -/
theorem cr_listN (hc : X.calm = true) : CallR X (.type "list") (fun vs H Q => ∃ d xs, vs = [V.ref d] ∧ H d = some (extN X.prog X.w d xs) ∧ (d == sysModules) = false ∧ xs.length ≤ sizeLine ∧ ∀ p, H p = none → Q (.ref p) (upd H p (.lst (xs.map fun x => V.ref x.2.1)))) := by
  intro pins s σ H xs us Q I r h
  obtain ⟨d, ks, rfl, hd, hs, hz, q⟩ := h
  obtain ⟨u, rfl, rx⟩ := r.one
  cases rx
  obtain ⟨o, es, ep, ho, hx, hdt, he, hn⟩ := HOk.rawN I.hok hd
  have l1 : es.size = ks.length := size_of_entries he
  refine PySem.W.kdl_call (kdl_raw hs hx hdt) (I.ok.hd hc) ho (by omega) fun h' tk acc' c' kp e it => ?_
  have ea : acc'.toList = ks.map fun x => Value.ref x.2.1 := by
    have hl : acc'.toList.length = ks.length := by rw [Array.length_toList, it.1]; exact l1
    apply List.ext_getElem?
    intro j
    rw [List.getElem?_map]
    cases hj : acc'.toList[j]? with
    | none =>
      have h1 := List.getElem?_eq_none_iff.mp hj
      rw [List.getElem?_eq_none (by omega)]
      all_goals rfl
    | some v =>
      obtain ⟨en, hen, hv⟩ := it.2 j v (by rw [← Array.getElem?_toList]; exact hj)
      have qe := entry_at he j
      rw [hen] at qe
      cases hb : ks[j]? with
      | none =>
        rw [hb] at qe
        exact nomatch (show some en = none from qe)
      | some b =>
        rw [hb] at qe
        have e2 : en = entryOfKey (nestedKind X.prog X.w) b := Option.some.inj qe
        rw [hv, e2]
        all_goals rfl
  have eb : acc'.toList = (ks.map fun x => x.2.1).map Value.ref := by rw [ea, List.map_map]; all_goals rfl
  have rv : Vals ((ks.map fun x => x.2.1).map V.ref) acc'.toList := by rw [eb]; exact vals_refs _
  have hz' : ((ks.map fun x => x.2.1).map V.ref).length ≤ sizeLine := by rw [List.length_map, List.length_map]; omega
  have em : (ks.map fun x => V.ref x.2.1) = (ks.map fun x => x.2.1).map V.ref := by rw [List.map_map]; rfl
  refine ⟨.ref s.heap.objs.size, _, I.laid (t' := tk) (o := .lst ((ks.map fun x => x.2.1).map V.ref)) kp (Nat.le_refl _) ?_, rfl, ?_⟩
  · exact ⟨hz', acc'.toList, c', rv, by rw [Array.toArray_toList]; exact e⟩
  · rw [← em]; exact q _ (I.hok.fresh (Nat.le_refl _))
theorem cb_listN (hc : X.calm = true) : Cb X (.type "list") [rN X.prog X.w A kvs] (rRule.lst.at (kvs.map (·.1))) := ⟨_, cr_listN hc, fun G H vs Q s h q => by
  obtain ⟨v, rfl, p, xs, e, h1, r, z, m⟩ := al1 h
  exact ⟨p, xs, by rw [e], h1, m, by rw [r.length]; exact z, fun l hl => q _ _ _ (Stp.new s hl _) (lst_new s hl (np_keys r) (by rw [List.length_map]; exact z))⟩⟩
/-- d[k] = e, the key any expression -/
theorem ps_putN {td ty tv : TE} {o i value : Expr} (hu : X.A.units + 16 < cLine) (ho : PE X o td) (hi : PE X i ty) (hv : PE X value tv) (hs : swapsWith value (some (.Subscript o i p')) pos.line X.env = pure false) :
    PS X (.Assign [.Subscript o i p'] value pos) (fun D σ H => tv σ H fun v H1 => td σ H1 fun x H2 => ty σ H2 fun y H3 => ∃ d q r xs G kvs, x = .ref d ∧ y = .ref q ∧ NK X.K H3 q r ∧ H3 d = some (extN X.prog X.w d xs) ∧ Same G H3 ∧ NP X.K G A xs kvs ∧ kvs.length < sizeLine ∧
      ∀ u, RelV v u → D.nx σ (upd H3 d (extN X.prog X.w d (storedH xs (nkey r) q u)))) := by
  refine ⟨fun pins s σ H D I h => ?_⟩
  refine wpAny_Assign_Subscript (thn (hv.run pins s σ H _ I h) fun r s1 ⟨v, H1, I1, rv, q1⟩ => thn (ho.run pins s1 σ H1 _ I1 q1) fun u s2 ⟨x, H2, I2, rx, q2⟩ => thn (hi.run pins s2 σ H2 _ I2 q2) fun iv s3 ⟨y, H3, I3, ry, d, q, k, xs, G, kvs, ex, ey, hk, hd, sm, np, hz, q3⟩ => ?_) hs
  subst ex; subst ey
  cases rx
  cases ry
  have D3 := dictN I3 sm np hd
  refine wpAny_setItem_heap (hsz := by rw [np.length]; omega) (room8 hu _ _) (nk_is I3 hk) D3 fun h' dd' hs' => ?_
  obtain ⟨o, es, ep, e1, e2, e3, e4, _, e5⟩ := dd'
  have J : Inv X pins σ (upd H3 d (extN X.prog X.w d (storedH xs (nkey k) q r))) { s3 with heap := h', toks := s3.toks + (nestedKind X.prog X.w).draws (nkey k) } :=
    d_write I3 (by rw [hd]; exact True.intro) hs' ⟨o, e1⟩ (rawN_ok ⟨o, es, ep, e1, e2, e3, e4, e5⟩)
  exact ⟨σ, _, J, q3 r rv⟩
theorem ss_nput (i : Nat) {x : Str} {d : α} (h : PR X B es e (A.at d)) (hk : PR X B es a (rRule.at k)) (r : PSl X B (es.set i (.own (.dcn X.prog X.w A (dput kvs k d)))) sts O) (hu : X.A.units + 16 < cLine) (z : kvs.length < sizeLine) (hi : es[i]? = some (.own (.dcn X.prog X.w A kvs)) := by rfl) (hN : X.N[i]? = some x := by rfl)
    (hv : Vis X.env.scope x := by first | exact Or.inl rfl | exact Or.inr (Or.inl rfl) | exact Or.inr (Or.inr rfl)) (hd : (x == ("__debug__" : Str)) = false := by decide) (hcd : (x == ("__classdict__" : Str)) = false := by decide)
    (hs : swapsWith e (some (.Subscript (.Name x np) a p')) pos.line X.env = pure false := by rfl) : PSl X B es (.Assign [.Subscript (.Name x np) a p'] e pos :: sts) O :=
  ss_do (ps_putN (A := A) hu (pe_var hN hv hd hcd) hk h hs)
    (fun D σ G H E q => ⟨G, E, fun v G1 H1 s1 rv => by
      have E1 := E.step s1
      obtain ⟨p, o, e1, h1, ⟨xs, eo, np, zd, m⟩, h2, h3⟩ := E1.getO hi
      subst eo
      refine ⟨_, e1, G1, E1, fun y G2 H2 s2 rk => ?_⟩
      obtain ⟨q1, rfl, nk⟩ := nk_of s2.gh rk
      have h1' := s2.hh _ _ h1
      have np2 : NP X.K G2 A xs kvs := pmono (fun _ _ ⟨h1, h2, v, h3, h4⟩ => ⟨h1, rRule.mono s2.gg h2, v, h3, A.mono s2.gg h4⟩) np
      refine ⟨p, q1, k, xs, G2, kvs, rfl, rfl, nk, h1', s2.gh, np2, z, fun u ru => ?_⟩
      refine q _ G2 _ ((E1.step s2).mut hi e1 ⟨_, rfl, np_put np2 rk ru (A.mono s2.gg rv), ?_, m⟩)
      exact Nat.le_trans (dput_len _ _ _) z⟩) r
end
end Rw

/-! RwT: the text by places; short words -/
namespace Rw
open PySem PyProof.Rows L2
def top (i : Nat) : Stmt := PySem.Challenge.pw_rulewright_k73_whole_plain_trees.main.body.getD i (.Pass ⟨0, 0, 0, 0⟩)
abbrev st_is_letter : Stmt := top 15
abbrev nm_is_letter : List Str := ["part"]
theorem sc_is_letter : FnScope nm_is_letter ["part"] (defScope st_is_letter) := ⟨rfl, rfl, rfl, by decide +kernel, rfl, by decide +kernel, by decide +kernel⟩
abbrev st_is_name : Stmt := top 16
abbrev nm_is_name : List Str := ["part", "sign"]
theorem sc_is_name : FnScope nm_is_name ["part"] (defScope st_is_name) := ⟨rfl, rfl, rfl, by decide +kernel, rfl, by decide +kernel, by decide +kernel⟩
abbrev st_is_rule : Stmt := top 17
abbrev nm_is_rule : List Str := ["rule", "name", "parts", "part"]
theorem sc_is_rule : FnScope nm_is_rule ["rule"] (defScope st_is_rule) := ⟨rfl, rfl, rfl, by decide +kernel, rfl, by decide +kernel, by decide +kernel⟩
abbrev st_is_grammar : Stmt := top 18
abbrev nm_is_grammar : List Str := ["grammar", "known", "rule", "ruled", "part"]
theorem sc_is_grammar : FnScope nm_is_grammar ["grammar"] (defScope st_is_grammar) := ⟨rfl, rfl, rfl, by decide +kernel, rfl, by decide +kernel, by decide +kernel⟩
abbrev st_must_be_grammar : Stmt := top 19
abbrev nm_must_be_grammar : List Str := ["grammar"]
theorem sc_must_be_grammar : FnScope nm_must_be_grammar ["grammar"] (defScope st_must_be_grammar) := ⟨rfl, rfl, rfl, by decide +kernel, rfl, by decide +kernel, by decide +kernel⟩
abbrev st_names_by : Stmt := top 20
abbrev nm_names_by : List Str := ["grammar", "found", "name", "parts"]
theorem sc_names_by : FnScope nm_names_by ["grammar"] (defScope st_names_by) := ⟨rfl, rfl, rfl, by decide +kernel, rfl, by decide +kernel, by decide +kernel⟩
abbrev st_numbers_by : Stmt := top 21
abbrev nm_numbers_by : List Str := ["grammar", "name", "number", "rule"]
theorem sc_numbers_by : FnScope nm_numbers_by ["grammar", "name"] (defScope st_numbers_by) := ⟨rfl, rfl, rfl, by decide +kernel, rfl, by decide +kernel, by decide +kernel⟩
abbrev st_makes_by : Stmt := top 23
abbrev nm_makes_by : List Str := ["grammar", "known", "grown", "name", "parts", "part"]
theorem sc_makes_by : FnScope nm_makes_by ["grammar"] (defScope st_makes_by) := ⟨rfl, rfl, rfl, by decide +kernel, rfl, by decide +kernel, by decide +kernel⟩
abbrev st_reached_from : Stmt := top 24
abbrev nm_reached_from : List Str := ["rules", "name", "known", "todo", "here", "other", "parts", "part"]
theorem sc_reached_from : FnScope nm_reached_from ["rules", "name"] (defScope st_reached_from) := ⟨rfl, rfl, rfl, by decide +kernel, rfl, by decide +kernel, by decide +kernel⟩
abbrev st_fits : Stmt := top 28
abbrev nm_fits : List Str := ["grammar", "part", "tree", "number", "below", "parts", "k"]
theorem sc_fits : FnScope nm_fits ["grammar", "part", "tree"] (defScope st_fits) := ⟨rfl, rfl, rfl, by decide +kernel, rfl, by decide +kernel, by decide +kernel⟩
abbrev st_count_of : Stmt := top 29
abbrev nm_count_of : List Str := ["tree", "one"]
theorem sc_count_of : FnScope nm_count_of ["tree"] (defScope st_count_of) := ⟨rfl, rfl, rfl, by decide +kernel, rfl, by decide +kernel, by decide +kernel⟩
abbrev st_depth_of : Stmt := top 30
abbrev nm_depth_of : List Str := ["tree", "one"]
theorem sc_depth_of : FnScope nm_depth_of ["tree"] (defScope st_depth_of) := ⟨rfl, rfl, rfl, by decide +kernel, rfl, by decide +kernel, by decide +kernel⟩
abbrev st_is_tree_of : Stmt := top 31
abbrev nm_is_tree_of : List Str := ["grammar", "part", "tree"]
theorem sc_is_tree_of : FnScope nm_is_tree_of ["grammar", "part", "tree"] (defScope st_is_tree_of) := ⟨rfl, rfl, rfl, by decide +kernel, rfl, by decide +kernel, by decide +kernel⟩
abbrev st_is_tree : Stmt := top 32
abbrev nm_is_tree : List Str := ["grammar", "tree"]
theorem sc_is_tree : FnScope nm_is_tree ["grammar", "tree"] (defScope st_is_tree) := ⟨rfl, rfl, rfl, by decide +kernel, rfl, by decide +kernel, by decide +kernel⟩
abbrev st_first_ahead : Stmt := top 34
abbrev nm_first_ahead : List Str := ["first", "entries", "one"]
theorem sc_first_ahead : FnScope nm_first_ahead ["first", "entries"] (defScope st_first_ahead) := ⟨rfl, rfl, rfl, by decide +kernel, rfl, by decide +kernel, by decide +kernel⟩
abbrev st_all_make : Stmt := top 35
abbrev nm_all_make : List Str := ["grammar", "made", "rule"]
theorem sc_all_make : FnScope nm_all_make ["grammar"] (defScope st_all_make) := ⟨rfl, rfl, rfl, by decide +kernel, rfl, by decide +kernel, by decide +kernel⟩
abbrev st_must_be_turned_tree : Stmt := top 36
abbrev nm_must_be_turned_tree : List Str := ["turned", "tree"]
theorem sc_must_be_turned_tree : FnScope nm_must_be_turned_tree ["turned", "tree"] (defScope st_must_be_turned_tree) := ⟨rfl, rfl, rfl, by decide +kernel, rfl, by decide +kernel, by decide +kernel⟩
abbrev st_within : Stmt := top 37
abbrev nm_within : List Str := ["tree"]
theorem sc_within : FnScope nm_within ["tree"] (defScope st_within) := ⟨rfl, rfl, rfl, by decide +kernel, rfl, by decide +kernel, by decide +kernel⟩
abbrev st_kept_numbers : Stmt := top 38
abbrev nm_kept_numbers : List Str := ["grammar", "made", "useful", "number", "rule", "known", "part"]
theorem sc_kept_numbers : FnScope nm_kept_numbers ["grammar"] (defScope st_kept_numbers) := ⟨rfl, rfl, rfl, by decide +kernel, rfl, by decide +kernel, by decide +kernel⟩
abbrev st_dropped : Stmt := top 39
abbrev nm_dropped : List Str := ["grammar", "first", "book", "one", "number"]
theorem sc_dropped : FnScope nm_dropped ["grammar"] (defScope st_dropped) := ⟨rfl, rfl, rfl, by decide +kernel, rfl, by decide +kernel, by decide +kernel⟩
abbrev st_renumbered : Stmt := top 40
abbrev nm_renumbered : List Str := ["tree", "numbers", "one"]
theorem sc_renumbered : FnScope nm_renumbered ["tree", "numbers"] (defScope st_renumbered) := ⟨rfl, rfl, rfl, by decide +kernel, rfl, by decide +kernel, by decide +kernel⟩
abbrev st_empty_trees : Stmt := top 42
abbrev nm_empty_trees : List Str := ["grammar", "found", "growing", "number", "rule", "part"]
theorem sc_empty_trees : FnScope nm_empty_trees ["grammar"] (defScope st_empty_trees) := ⟨rfl, rfl, rfl, by decide +kernel, rfl, by decide +kernel, by decide +kernel⟩
abbrev st_full_names : Stmt := top 43
abbrev nm_full_names : List Str := ["grammar", "found", "growing", "name", "parts", "part"]
theorem sc_full_names : FnScope nm_full_names ["grammar"] (defScope st_full_names) := ⟨rfl, rfl, rfl, by decide +kernel, rfl, by decide +kernel, by decide +kernel⟩
abbrev st_ways_to_leave : Stmt := top 44
abbrev nm_ways_to_leave : List Str := ["parts", "full", "hollow", "ways", "part", "longer", "way"]
theorem sc_ways_to_leave : FnScope nm_ways_to_leave ["parts", "full", "hollow"] (defScope st_ways_to_leave) := ⟨rfl, rfl, rfl, by decide +kernel, rfl, by decide +kernel, by decide +kernel⟩
abbrev st_entry_by : Stmt := top 45
abbrev nm_entry_by : List Str := ["number", "parts", "way", "hollow", "places", "place", "k"]
theorem sc_entry_by : FnScope nm_entry_by ["number", "parts", "way", "hollow"] (defScope st_entry_by) := ⟨rfl, rfl, rfl, by decide +kernel, rfl, by decide +kernel, by decide +kernel⟩
abbrev st_emptied : Stmt := top 46
abbrev nm_emptied : List Str := ["grammar", "full", "first", "hollow", "found", "number", "rule", "name", "parts", "way", "kept", "rules", "k"]
theorem sc_emptied : FnScope nm_emptied ["grammar"] (defScope st_emptied) := ⟨rfl, rfl, rfl, by decide +kernel, rfl, by decide +kernel, by decide +kernel⟩
abbrev st_lead_emptied : Stmt := top 47
abbrev nm_lead_emptied : List Str := ["book", "tree", "number", "places", "below", "place"]
theorem sc_lead_emptied : FnScope nm_lead_emptied ["book", "tree"] (defScope st_lead_emptied) := ⟨rfl, rfl, rfl, by decide +kernel, rfl, by decide +kernel, by decide +kernel⟩
abbrev st_is_lone : Stmt := top 49
abbrev nm_is_lone : List Str := ["rule"]
theorem sc_is_lone : FnScope nm_is_lone ["rule"] (defScope st_is_lone) := ⟨rfl, rfl, rfl, by decide +kernel, rfl, by decide +kernel, by decide +kernel⟩
abbrev st_chains_from : Stmt := top 50
abbrev nm_chains_from : List Str := ["grammar", "name", "found", "queue", "at", "here", "number", "rule"]
theorem sc_chains_from : FnScope nm_chains_from ["grammar", "name"] (defScope st_chains_from) := ⟨rfl, rfl, rfl, by decide +kernel, rfl, by decide +kernel, by decide +kernel⟩
abbrev st_straightened : Stmt := top 51
abbrev nm_straightened : List Str := ["grammar", "found", "name", "chains", "here", "number", "rule", "rules"]
theorem sc_straightened : FnScope nm_straightened ["grammar"] (defScope st_straightened) := ⟨rfl, rfl, rfl, by decide +kernel, rfl, by decide +kernel, by decide +kernel⟩
abbrev st_lead_straightened : Stmt := top 52
abbrev nm_lead_straightened : List Str := ["book", "tree", "chain", "led", "number", "one"]
theorem sc_lead_straightened : FnScope nm_lead_straightened ["book", "tree"] (defScope st_lead_straightened) := ⟨rfl, rfl, rfl, by decide +kernel, rfl, by decide +kernel, by decide +kernel⟩
abbrev st_new_names : Stmt := top 54
abbrev nm_new_names : List Str := ["grammar", "letter", "known", "some", "number", "name"]
theorem sc_new_names : FnScope nm_new_names ["grammar", "letter"] (defScope st_new_names) := ⟨rfl, rfl, rfl, by decide +kernel, rfl, by decide +kernel, by decide +kernel⟩
abbrev st_paired : Stmt := top 55
abbrev nm_paired : List Str := ["grammar", "some", "rules", "book", "number", "rule", "name", "parts", "place"]
theorem sc_paired : FnScope nm_paired ["grammar"] (defScope st_paired) := ⟨rfl, rfl, rfl, by decide +kernel, rfl, by decide +kernel, by decide +kernel⟩
abbrev st_lead_paired : Stmt := top 56
abbrev nm_lead_paired : List Str := ["grammar", "book", "tree", "number", "below", "here", "one"]
theorem sc_lead_paired : FnScope nm_lead_paired ["grammar", "book", "tree"] (defScope st_lead_paired) := ⟨rfl, rfl, rfl, by decide +kernel, rfl, by decide +kernel, by decide +kernel⟩
abbrev st_plain : Stmt := top 58
abbrev nm_plain : List Str := ["grammar", "fewer", "first_book", "full", "second_book", "straight", "third_book", "few", "fourth_book", "twos", "fifth_book"]
theorem sc_plain : FnScope nm_plain ["grammar"] (defScope st_plain) := ⟨rfl, rfl, rfl, by decide +kernel, rfl, by decide +kernel, by decide +kernel⟩
abbrev st_led_plain : Stmt := top 59
abbrev nm_led_plain : List Str := ["grammar", "tree", "turned", "books", "straight", "here", "number"]
theorem sc_led_plain : FnScope nm_led_plain ["grammar", "tree"] (defScope st_led_plain) := ⟨rfl, rfl, rfl, by decide +kernel, rfl, by decide +kernel, by decide +kernel⟩
abbrev st__law_cell_at : Stmt := top 61
abbrev nm__law_cell_at : List Str := ["script", "k"]
theorem sc__law_cell_at : FnScope nm__law_cell_at ["script", "k"] (defScope st__law_cell_at) := ⟨rfl, rfl, rfl, by decide +kernel, rfl, by decide +kernel, by decide +kernel⟩
abbrev st__law_next : Stmt := top 62
abbrev nm__law_next : List Str := ["script", "spot"]
theorem sc__law_next : FnScope nm__law_next ["script", "spot"] (defScope st__law_next) := ⟨rfl, rfl, rfl, by decide +kernel, rfl, by decide +kernel, by decide +kernel⟩
abbrev st__law_rule_by : Stmt := top 63
abbrev nm__law_rule_by : List Str := ["cell", "parts", "left", "k"]
theorem sc__law_rule_by : FnScope nm__law_rule_by ["cell"] (defScope st__law_rule_by) := ⟨rfl, rfl, rfl, by decide +kernel, rfl, by decide +kernel, by decide +kernel⟩
abbrev st__law_known : Stmt := top 64
abbrev nm__law_known : List Str := ["number", "some", "rules", "word", "name", "parts"]
theorem sc__law_known : FnScope nm__law_known ["number"] (defScope st__law_known) := ⟨rfl, rfl, rfl, by decide +kernel, rfl, by decide +kernel, by decide +kernel⟩
abbrev st__law_closed : Stmt := top 65
abbrev nm__law_closed : List Str := ["rules", "found", "rule", "name", "has", "used"]
theorem sc__law_closed : FnScope nm__law_closed ["rules"] (defScope st__law_closed) := ⟨rfl, rfl, rfl, by decide +kernel, rfl, by decide +kernel, by decide +kernel⟩
abbrev st__law_grammar : Stmt := top 66
abbrev nm__law_grammar : List Str := ["script", "spot", "cell", "many", "rules", "k"]
theorem sc__law_grammar : FnScope nm__law_grammar ["script", "spot"] (defScope st__law_grammar) := ⟨rfl, rfl, rfl, by decide +kernel, rfl, by decide +kernel, by decide +kernel⟩
abbrev st__law_heights : Stmt := top 67
abbrev nm__law_heights : List Str := ["grammar", "heights", "letter", "turn", "name", "parts", "high", "part"]
theorem sc__law_heights : FnScope nm__law_heights ["grammar"] (defScope st__law_heights) := ⟨rfl, rfl, rfl, by decide +kernel, rfl, by decide +kernel, by decide +kernel⟩
abbrev st__law_grown : Stmt := top 68
abbrev nm__law_grown : List Str := ["script", "spot", "grammar", "heights", "name", "fuel", "some", "number", "rule", "cell", "below", "part"]
theorem sc__law_grown : FnScope nm__law_grown ["script", "spot", "grammar", "heights", "name", "fuel"] (defScope st__law_grown) := ⟨rfl, rfl, rfl, by decide +kernel, rfl, by decide +kernel, by decide +kernel⟩
abbrev st__law_letters : Stmt := top 69
abbrev nm__law_letters : List Str := ["tree", "one"]
theorem sc__law_letters : FnScope nm__law_letters ["tree"] (defScope st__law_letters) := ⟨rfl, rfl, rfl, by decide +kernel, rfl, by decide +kernel, by decide +kernel⟩
abbrev st__law_is_whole : Stmt := top 70
abbrev nm__law_is_whole : List Str := ["number"]
theorem sc__law_is_whole : FnScope nm__law_is_whole ["number"] (defScope st__law_is_whole) := ⟨rfl, rfl, rfl, by decide +kernel, rfl, by decide +kernel, by decide +kernel⟩
abbrev st__law_fits : Stmt := top 71
abbrev nm__law_fits : List Str := ["grammar", "part", "tree", "parts", "k"]
theorem sc__law_fits : FnScope nm__law_fits ["grammar", "part", "tree"] (defScope st__law_fits) := ⟨rfl, rfl, rfl, by decide +kernel, rfl, by decide +kernel, by decide +kernel⟩
abbrev st__law_count : Stmt := top 72
abbrev nm__law_count : List Str := ["tree", "one"]
theorem sc__law_count : FnScope nm__law_count ["tree"] (defScope st__law_count) := ⟨rfl, rfl, rfl, by decide +kernel, rfl, by decide +kernel, by decide +kernel⟩
abbrev st__law_kind : Stmt := top 73
abbrev nm__law_kind : List Str := ["e", "kinds"]
theorem sc__law_kind : FnScope nm__law_kind ["e"] (defScope st__law_kind) := ⟨rfl, rfl, rfl, by decide +kernel, rfl, by decide +kernel, by decide +kernel⟩
abbrev st__law_joined : Stmt := top 74
abbrev nm__law_joined : List Str := ["parts", "known", "most", "found", "part", "some", "longer", "text", "more"]
theorem sc__law_joined : FnScope nm__law_joined ["parts", "known", "most"] (defScope st__law_joined) := ⟨rfl, rfl, rfl, by decide +kernel, rfl, by decide +kernel, by decide +kernel⟩
abbrev st__law_words : Stmt := top 75
abbrev nm__law_words : List Str := ["grammar", "most", "known", "rule", "turned_any", "name", "parts", "text"]
theorem sc__law_words : FnScope nm__law_words ["grammar", "most"] (defScope st__law_words) := ⟨rfl, rfl, rfl, by decide +kernel, rfl, by decide +kernel, by decide +kernel⟩
abbrev st__law_told : Stmt := top 76
abbrev nm__law_told : List Str := ["call", "grammar", "tree", "e"]
theorem sc__law_told : FnScope nm__law_told ["call", "grammar", "tree"] (defScope st__law_told) := ⟨rfl, rfl, rfl, by decide +kernel, rfl, by decide +kernel, by decide +kernel⟩
abbrev st__law_depth : Stmt := top 77
abbrev nm__law_depth : List Str := ["tree", "one"]
theorem sc__law_depth : FnScope nm__law_depth ["tree"] (defScope st__law_depth) := ⟨rfl, rfl, rfl, by decide +kernel, rfl, by decide +kernel, by decide +kernel⟩
abbrev st__law_is_small : Stmt := top 78
abbrev nm__law_is_small : List Str := ["tree"]
theorem sc__law_is_small : FnScope nm__law_is_small ["tree"] (defScope st__law_is_small) := ⟨rfl, rfl, rfl, by decide +kernel, rfl, by decide +kernel, by decide +kernel⟩
abbrev st__law_empty_led : Stmt := top 79
abbrev nm__law_empty_led : List Str := ["book", "tree", "number", "places", "below", "one"]
theorem sc__law_empty_led : FnScope nm__law_empty_led ["book", "tree"] (defScope st__law_empty_led) := ⟨rfl, rfl, rfl, by decide +kernel, rfl, by decide +kernel, by decide +kernel⟩
abbrev st__law_lone_led : Stmt := top 80
abbrev nm__law_lone_led : List Str := ["book", "tree", "entry", "here", "number", "one"]
theorem sc__law_lone_led : FnScope nm__law_lone_led ["book", "tree"] (defScope st__law_lone_led) := ⟨rfl, rfl, rfl, by decide +kernel, rfl, by decide +kernel, by decide +kernel⟩
abbrev st__law_two_led : Stmt := top 81
abbrev nm__law_two_led : List Str := ["grammar", "book", "tree", "number", "below", "here", "one"]
theorem sc__law_two_led : FnScope nm__law_two_led ["grammar", "book", "tree"] (defScope st__law_two_led) := ⟨rfl, rfl, rfl, by decide +kernel, rfl, by decide +kernel, by decide +kernel⟩
abbrev st__law_numbered : Stmt := top 82
abbrev nm__law_numbered : List Str := ["tree", "numbers", "one"]
theorem sc__law_numbered : FnScope nm__law_numbered ["tree", "numbers"] (defScope st__law_numbered) := ⟨rfl, rfl, rfl, by decide +kernel, rfl, by decide +kernel, by decide +kernel⟩
abbrev st__law_led : Stmt := top 83
abbrev nm__law_led : List Str := ["grammar", "books", "tree", "fewer", "full", "number", "places", "parts", "straight", "here", "k", "entry"]
theorem sc__law_led : FnScope nm__law_led ["grammar", "books", "tree"] (defScope st__law_led) := ⟨rfl, rfl, rfl, by decide +kernel, rfl, by decide +kernel, by decide +kernel⟩
abbrev st_law : Stmt := top 84
abbrev nm_law : List Str := ["script", "spot", "grammar", "handed", "pair", "rules", "tree", "cell", "found", "due", "text"]
theorem sc_law : FnScope nm_law ["script"] (defScope st_law) := ⟨rfl, rfl, rfl, by decide +kernel, rfl, by decide +kernel, by decide +kernel⟩

/-- the names of the built-ins are the built-ins' -/
structure Blt (mg : Str → Option Value) : Prop where
  len : mg "len" = none
  all : mg "all" = none
  isinstance : mg "isinstance" = none
  enumerate : mg "enumerate" = none
  range : mg "range" = none
  tuple : mg "tuple" = none
  list : mg "list" = none
  sum : mg "sum" = none
  max : mg "max" = none
  min : mg "min" = none
  sorted : mg "sorted" = none
  str : mg "str" = none
  int : mg "int" = none
  bool : mg "bool" = none
  reversed : mg "reversed" = none
  ValueError : mg "ValueError" = none
  rules40 : ∃ t, mg "MOST_RULES" = some (.int 40 t)
  parts6 : ∃ t, mg "MOST_PARTS" = some (.int 6 t)
  name8 : ∃ t, mg "MOST_NAME" = some (.int 8 t)
  letters : ∃ t, mg "LETTERS" = some (.str "abcdefghijklmnopqrstuvwxyz" t)
  capitals : ∃ t, mg "CAPITALS" = some (.str "ABCDEFGHIJKLMNOPQRSTUVWXYZ" t)
  figures : ∃ t, mg "FIGURES" = some (.str "0123456789" t)
  tree200 : ∃ t, mg "MOST_IN_TREE" = some (.int 200 t)
  deep40 : ∃ t, mg "DEEPEST" = some (.int 40 t)

abbrev rGram : Rp Gram := rRule.lst
section
variable {κ : Type} [DecidableEq κ]
theorem dhas_mk (l : List κ) (k : κ) : dhas (l.map fun x => (x, true)) k = decide (k ∈ l) := by
  unfold dhas
  induction l with
  | nil => rfl
  | cons a l ih =>
    rw [List.map_cons, List.any_cons, ih, Bool.eq_iff_iff]
    simp only [Bool.or_eq_true, decide_eq_true_eq, List.mem_cons]
    exact or_congr_left ⟨Eq.symm, Eq.symm⟩
theorem dput_mk (l : List κ) (k : κ) (h : k ∉ l) : dput (l.map fun x => (x, true)) k true = (l ++ [k]).map fun x => (x, true) := by
  unfold dput
  rw [dhas_mk, decide_eq_false h, if_neg Bool.false_ne_true, List.map_append]; rfl
end
theorem take_succ {α : Type} {l : List α} {i : Nat} {x : α} (h : l[i]? = some x) : l.take (i + 1) = l.take i ++ [x] := by
  rw [List.take_add_one, h]; rfl
theorem drop_get {α : Type} {l : List α} {i : Nat} {x : α} (h : l[i]? = some x) : l.drop i = x :: l.drop (i + 1) := by
  have hi := (List.getElem?_eq_some_iff.mp h).1
  rw [List.drop_eq_getElem_cons hi, (List.getElem?_eq_some_iff.mp h).2]
theorem small {n : Nat} (h : n ≤ 100000) : n ≤ sizeLine := Nat.le_trans h (by decide)
theorem smallL {n : Nat} (h : n ≤ 100000) : n < sizeLine := Nat.lt_of_le_of_lt h (by decide)
theorem no1 {α ι : Type} {A : ι → Rp α} {f : ι → α} : ∀ i : ι, NoO [Sl.dat (A i) (f i)] := fun _ => ⟨trivial, trivial⟩
theorem no2 {α β ι : Type} {A : ι → Rp α} {f : ι → α} {B : ι → Rp β} {g : ι → β} : ∀ i : ι, NoO [Sl.dat (A i) (f i), Sl.dat (B i) (g i)] := fun _ => ⟨trivial, trivial, trivial⟩
theorem no3 {α β γ ι : Type} {A : ι → Rp α} {f : ι → α} {B : ι → Rp β} {g : ι → β} {C : ι → Rp γ} {h : ι → γ} : ∀ i : ι, NoO [Sl.dat (A i) (f i), Sl.dat (B i) (g i), Sl.dat (C i) (h i)] := fun _ => ⟨trivial, trivial, trivial, trivial⟩
theorem no4 {α β γ δ ι : Type} {A : ι → Rp α} {f : ι → α} {B : ι → Rp β} {g : ι → β} {C : ι → Rp γ} {h : ι → γ} {D : ι → Rp δ} {k : ι → δ} : ∀ i : ι, NoO [Sl.dat (A i) (f i), Sl.dat (B i) (g i), Sl.dat (C i) (h i), Sl.dat (D i) (k i)] := fun _ => ⟨trivial, trivial, trivial, trivial, trivial⟩
theorem hu1 {A : Around} {k : Nat} (hr : Room k A) : A.units + 1 < cLine := hu_of hr
theorem hu16 {A : Around} {k : Nat} (hr : Room k A) : A.units + 16 < cLine := by have := hr.un; omega
theorem atI_gi {α : Type} [Inhabited α] {xs : List α} {i : Int} (h0 : 0 ≤ i) (h1 : i < xs.length) : atI xs i = some (gi xs i) := by
  have e : i = ((i.toNat : Nat) : Int) := by omega
  have hl : i.toNat < xs.length := by omega
  have q : atI xs ((i.toNat : Nat) : Int) = some xs[i.toNat] := atI_nat (by simp [hl])
  rw [← e] at q
  rw [q]
  unfold gi
  simp [List.getD, hl]
section
variable {X : Cx} {B : Bs} {es : List Sl}
theorem cmp_inC {c : Nat} {z : Str} : Cmp X .In (Rp.str.at ⟨#[c]⟩) (Rp.str.at z) (decide (c ∈ z.cps.toList)) := ⟨_, op_in_sign, Op2.val fun G H x y Q s hx hy => ⟨_, rfl, fun q => ⟨c, z, hx.1, hy.1, q⟩⟩⟩
theorem cmp_niC {c : Nat} {z : Str} : Cmp X .NotIn (Rp.str.at ⟨#[c]⟩) (Rp.str.at z) (!decide (c ∈ z.cps.toList)) := ⟨_, op_notIn_sign, Op2.val fun G H x y Q s hx hy => ⟨_, rfl, fun q => ⟨c, z, hx.1, hy.1, q⟩⟩⟩
end
theorem cps_letters : (Str.ofString "abcdefghijklmnopqrstuvwxyz").cps.toList = alphaL := by decide +kernel
theorem cps_capitals : (Str.ofString "ABCDEFGHIJKLMNOPQRSTUVWXYZ").cps.toList = capsL := by decide +kernel
theorem cps_figures : (Str.ofString "0123456789").cps.toList = figsL := by decide +kernel
theorem cmp_inAl {X : Cx} {c : Nat} : Cmp X .In (Rp.str.at ⟨#[c]⟩) (Rp.str.at "abcdefghijklmnopqrstuvwxyz") (decide (c ∈ alphaL)) := by
  rw [← cps_letters]; exact cmp_inC
theorem cmp_inCap {X : Cx} {c : Nat} : Cmp X .In (Rp.str.at ⟨#[c]⟩) (Rp.str.at "ABCDEFGHIJKLMNOPQRSTUVWXYZ") (decide (c ∈ capsL)) := by
  rw [← cps_capitals]; exact cmp_inC
theorem cmp_niCap {X : Cx} {c : Nat} : Cmp X .NotIn (Rp.str.at ⟨#[c]⟩) (Rp.str.at "ABCDEFGHIJKLMNOPQRSTUVWXYZ") (!decide (c ∈ capsL)) := by
  rw [← cps_capitals]; exact cmp_niC
theorem cmp_inFig {X : Cx} {c : Nat} : Cmp X .In (Rp.str.at ⟨#[c]⟩) (Rp.str.at "0123456789") (decide (c ∈ figsL)) := by
  rw [← cps_figures]; exact cmp_inC
theorem len1 {s : Str} (h : s.length = 1) : ∃ c, s = ⟨#[c]⟩ := by
  obtain ⟨⟨l⟩⟩ := s
  match l, h with
  | [c], _ => exact ⟨c, rfl⟩
theorem isLetter_len {s : Str} (h : ¬ s.length = 1) : isLetter s = false := by
  obtain ⟨⟨l⟩⟩ := s
  match l, h with
  | [], _ => rfl
  | [c], h => exact absurd rfl h
  | _ :: _ :: _, _ => rfl
end Rw

/-! RwG: rulewright/grammars.py -/
namespace Rw
open PySem PyProof.Rows L2
section
variable (P : Program) (w : World) (K : PySem.W.Frag) (mg : Str → Option Value) (base : Heap)
abbrev D_is_letter := Df P w K mg base CX0 "is_letter" ["part"] 1 (spI K (ι := Str) (fun s => [.dat Rp.str s]) (fun _ => True) Rp.bl isLetter)
abbrev D_is_name := Df P w K mg base CX0 "is_name" ["part"] 1 (spI K (ι := Str) (fun s => [.dat Rp.str s]) (fun s => isName s = true) Rp.bl (fun _ => true))
def OkRule (r : Rule) : Prop := isName r.1 = true ∧ r.2.length ≤ 6 ∧ ∀ p ∈ r.2, isLetter p = true ∨ isName p = true
abbrev D_is_rule := Df P w K mg base CX0 "is_rule" ["rule"] 2 (spI K (ι := Rule) (fun r => [.dat rRule r]) OkRule Rp.bl (fun _ => true))
abbrev D_is_grammar := Df P w K mg base CX0 "is_grammar" ["grammar"] 3 (spI K (ι := Gram) (fun g => [.dat rGram g]) WF Rp.bl (fun _ => true))
abbrev D_must_be_grammar := Df P w K mg base CX0 "must_be_grammar" ["grammar"] 4 (spI K (ι := Gram) (fun g => [.dat rGram g]) WF Rp.non (fun _ => ()))
abbrev D_names_by := Df P w K mg base CX0 "names_by" ["grammar"] 1 (spI K (ι := Gram) (fun g => [.dat rGram g]) (fun g => g.length ≤ 100) Rp.str.lst namesBy)
abbrev D_numbers_by := Df P w K mg base CX0 "numbers_by" ["grammar", "name"] 1 (spI K (ι := Gram × Str) (fun i => [.dat rGram i.1, .dat Rp.str i.2]) (fun i => i.1.length ≤ 100) Rp.int.lst (fun i => numbersBy i.1 i.2))
end
section
variable {P : Program} {w : World} {K : PySem.W.Frag} {mg : Str → Option Value} {base : Heap}
theorem ok_is_letter (T : Top K mg "is_letter" st_is_letter ["part"]) (M : Blt mg) : D_is_letter P w K mg base := T.df fun f fd F => by
  refine fn_pure F sc_is_letter (fun _ => rfl) no1 fun s _ cdv Aa outer sh H E B hr => ?_
  show PSl _ _ [.dat Rp.str s] _ _
  obtain ⟨t, hL⟩ := M.letters
  refine ss_ret (A := Rp.bl) (d := isLetter s) (pr_eq (pr_and (l := isLetter s) (pr_cmp (pr_callB (par_cons (pr_var 0) par_nil) M.len cb_lenS) pr_int cmp_eqI) (fun h => pr_one ?_)) ?_) fun _ _ h => h
  · have h1 : s.length = 1 := by have := of_decide_eq_true h; omega
    obtain ⟨c, rfl⟩ := len1 h1
    exact pr_cmp (pr_var 0) (pr_globS hL) cmp_inAl
  · by_cases h : s.length = 1
    · simp [h]
    · rw [isLetter_len h]; simp
theorem ok_names_by (T : Top K mg "names_by" st_names_by ["grammar"]) (M : Blt mg) : D_names_by P w K mg base := T.df fun f fd F => by
  refine fn_pure F sc_names_by (fun _ => rfl) no1 fun g hg cdv Aa outer sh H E B hr => ?_
  show PSl _ _ [.dat rGram g, .un, .un, .un] _ _
  refine ss_own0 1 Rp.str ?_ sc_names_by.nd
  refine ss_for (fun i es => ∃ acc a b, acc.length ≤ i ∧ (g.drop i).foldl namesStep acc = namesBy g ∧ es = [.dat rGram g, .own (.lst Rp.str acc), a, b])
    (it_list (pr_var 0)) (tg_pair 2 3 rfl sc_names_by.nd) ⟨[], .un, .un, Nat.zero_le _, rfl, rfl⟩ ?_ ?_ PassesOwn.never rfl
  · rintro B' i r _ hi ⟨acc, a, b, hl, hf, rfl⟩
    show PSl _ _ [.dat rGram g, .own (.lst Rp.str acc), .dat Rp.str r.1, .dat Rp.str.tup r.2] _ _
    have hi2 : i < g.length := (List.getElem?_eq_some_iff.mp hi).1
    have hd : g.drop i = r :: g.drop (i + 1) := by
      rw [List.drop_eq_getElem_cons hi2, (List.getElem?_eq_some_iff.mp hi).2]
    rw [hd, List.foldl_cons] at hf
    refine ss_if2 (pb_cmp (pr_var 2) (pr_own 1) cmp_niL) (fun h => ?_) (fun h => ?_)
    · refine ss_append 1 (pr_var 2) ?_ ?_
      rotate_left
      · exact smallL (by omega)
      have hm : ¬ r.1 ∈ acc := by simpa using h
      refine ss_nil (ss_nil ⟨acc ++ [r.1], _, _, ?_, ?_, rfl⟩)
      · simp; omega
      · rw [namesStep, if_neg hm] at hf; exact hf
    · have hm : r.1 ∈ acc := by simpa using h
      refine ss_nil (ss_nil ⟨acc, _, _, by omega, ?_, rfl⟩)
      rw [namesStep, if_pos hm] at hf; exact hf
  · rintro _ ⟨acc, a, b, hl, hf, rfl⟩
    rw [List.drop_length] at hf
    refine ss_frzL 1 ?_
    refine ss_ret (pr_var 1) fun G v h => ?_
    rw [← hf]; exact h
theorem ok_numbers_by (T : Top K mg "numbers_by" st_numbers_by ["grammar", "name"]) (M : Blt mg) : D_numbers_by P w K mg base := T.df fun f fd F => by
  refine fn_pure F sc_numbers_by (fun _ => rfl) no2 fun ⟨g, n⟩ hg cdv Aa outer sh H E B hr => ?_
  show PSl _ _ [.dat rGram g, .dat Rp.str n, .un, .un] _ _
  have hg : g.length ≤ 100 := hg
  refine ss_ret (pr_lc [("number", 2), ("rule", 3)] (c := fun (p : Int × Rule) => decide (p.2.1 = n)) (f := fun p => p.1) (it_enum (pr_var 0) M.enumerate) (fun _ _ _ _ _ => tg_pair 2 3 rfl sc_numbers_by.nd)
    (fun y hy _ _ _ _ _ => pts_1 (pb_cmp (pr_ix (pr_var 3) pr_int ix_P0) (pr_var 1) cmp_eqS)) (fun y hy _ _ _ _ _ _ => pr_var 2) (by rw [enumI_len]; exact small (by omega)) sc_numbers_by.nd) fun _ _ h => h
theorem ok_is_name (T : Top K mg "is_name" st_is_name ["part"]) (M : Blt mg) : D_is_name P w K mg base := T.df fun f fd F => by
  refine fn_pure F sc_is_name (fun _ => rfl) no1 fun s hs cdv Aa outer sh H E B hr => ?_
  show PSl _ _ [.dat Rp.str s, .un] _ _
  obtain ⟨t8, h8⟩ := M.name8
  obtain ⟨tC, hC⟩ := M.capitals
  obtain ⟨tF, hF⟩ := M.figures
  obtain ⟨⟨l⟩⟩ := s
  match l, hs with
  | c :: r, hs =>
    have hs : (decide (r.length ≤ 7) && decide (c ∈ capsL) && r.all fun d => decide (d ∈ capsL) || decide (d ∈ figsL)) = true := hs
    simp only [Bool.and_eq_true, decide_eq_true_eq] at hs
    obtain ⟨⟨h7, hc⟩, hr⟩ := hs
    have hlen : (⟨⟨c :: r⟩⟩ : Str).length = r.length + 1 := rfl
    refine ss_ifF (pb_w (pbw_or (pb_not (pb_chain pr_int (pr_callB (par_cons (pr_var 0) par_nil) M.len cb_lenS) (pr_globI h8) cmp_le cmp_le)) fun _ => pbw_or1 (pb_cmp (pr_ix (pr_var 0) pr_int (ix_S (c := c) (atI_nat (j := 0) rfl))) (pr_globS hC) cmp_niCap))) ?_ ?_
    · rw [hlen]
      have e1 : decide ((1 : Int) ≤ ((r.length + 1 : Nat) : Int)) = true := decide_eq_true (by omega)
      have e2 : decide (((r.length + 1 : Nat) : Int) ≤ 8) = true := decide_eq_true (by omega)
      have e3 : decide (c ∈ capsL) = true := decide_eq_true hc
      rw [e1, e2, e3]; rfl
    · refine ss_nil ?_
      refine ss_ret (A := Rp.bl) (d := true) (pr_eq (pr_callB (par_cons (pr_l (pr_lc [("sign", 1)] (c := fun _ => true) (f := fun z => match z.cps.toList with | [d] => decide (d ∈ capsL) || decide (d ∈ figsL) | _ => false) (it_str (pr_var 0)) (fun _ _ _ _ _ => tg_name 1 sc_is_name.nd)
        (fun y hy _ _ _ _ _ => pts_yes) (fun y hy _ _ _ _ _ _ => ?_) (by simp [chars]; exact small (by omega)) sc_is_name.nd)) par_nil) M.all (cb_all rfl)) ?_) fun _ _ h => h
      · obtain ⟨d, hd, rfl⟩ := List.mem_map.mp hy
        exact pr_or (pr_cmp (pr_var 1) (pr_globS hC) cmp_inCap) fun _ => pr_one (pr_cmp (pr_var 1) (pr_globS hF) cmp_inFig)
      · rw [List.all_eq_true]
        intro b hb
        obtain ⟨z, hz, rfl⟩ := List.mem_map.mp hb
        obtain ⟨d, hd, rfl⟩ := List.mem_map.mp (List.mem_filter.mp hz).1
        show (decide (d ∈ capsL) || decide (d ∈ figsL)) = true
        rcases List.mem_cons.mp hd with e | e
        · rw [e, decide_eq_true hc]; rfl
        · exact List.all_eq_true.mp hr d e
theorem ok_is_rule (T : Top K mg "is_rule" st_is_rule ["rule"]) (M : Blt mg) (D1 : D_is_letter P w K mg base) (D2 : D_is_name P w K mg base) : D_is_rule P w K mg base := T.df fun f fd F => by
  refine fn_pure F sc_is_rule (fun _ => rfl) no1 fun r ⟨h1, h2, h3⟩ cdv Aa outer sh H E B hr => ?_
  show PSl _ _ [.dat rRule r, .un, .un, .un] _ _
  obtain ⟨t6, h6⟩ := M.parts6
  refine ss_pair 1 2 (pr_var 0) ?_ rfl sc_is_rule.nd (tg_pair 1 2 rfl sc_is_rule.nd)
  refine ss_ifF (pb_w (pbw_or (pb_not (pb_val (pr_call D2 hr r.1 (par_cons (pr_var 1) par_nil) h1))) fun _ => pbw_or1 (pb_cmp (pr_callB (par_cons (pr_var 2) par_nil) M.len cb_lenT) (pr_globI h6) cmp_gt))) ?_ (ss_nil ?_)
  · simp; omega
  · refine ss_ret (A := Rp.bl) (d := true) (pr_eq (pr_callB (par_cons (pr_l (pr_lc [("part", 3)] (c := fun _ => true) (f := fun p => isLetter p || isName p) (it_tup (pr_var 2)) (fun _ _ _ _ _ => tg_name 3 sc_is_rule.nd)
      (fun y hy _ _ _ _ _ => pts_yes) (fun y hy _ _ _ _ _ _ => ?_) (small (by omega)) sc_is_rule.nd)) par_nil) M.all (cb_all rfl)) ?_) fun _ _ h => h
    · refine pr_or (pr_call D1 hr y (par_cons (pr_var 3) par_nil) trivial) fun h => pr_one ?_
      have hn : isName y = true := by
        rcases h3 y hy with e | e
        · rw [e] at h; cases h
        · exact e
      exact pr_eq (pr_call D2 hr y (par_cons (pr_var 3) par_nil) hn) hn.symm
    · rw [List.all_eq_true]
      intro b hb
      obtain ⟨z, hz, rfl⟩ := List.mem_map.mp hb
      rcases h3 z (List.mem_filter.mp hz).1 with e | e <;> simp [e]
theorem ok_is_grammar (T : Top K mg "is_grammar" st_is_grammar ["grammar"]) (M : Blt mg) (D1 : D_is_letter P w K mg base) (D2 : D_is_rule P w K mg base) : D_is_grammar P w K mg base := T.df fun f fd F => by
  refine fn_pure F sc_is_grammar (fun _ => rfl) no1 fun g W cdv Aa outer sh H E B hr => ?_
  show PSl _ _ [.dat rGram g, .un, .un, .un, .un] _ _
  obtain ⟨t40, h40⟩ := M.rules40
  have le := W.le
  refine ss_ifF (pb_not (pb_chain pr_int (pr_callB (par_cons (pr_l (pr_var 0)) par_nil) M.len cb_lenL) (pr_globI h40) cmp_le cmp_le)) ?_ (ss_nil ?_)
  · have h1 := W.pos
    have e1 : decide ((1 : Int) ≤ ((g.length : Nat) : Int)) = true := decide_eq_true (by omega)
    have e2 : decide (((g.length : Nat) : Int) ≤ 40) = true := decide_eq_true (by omega)
    rw [e1, e2]; rfl
  refine ss_ownN 1 Rp.bl ?_ sc_is_grammar.nd
  refine ss_for (fun i es => ∃ a, es = [.dat rGram g, .own (.dcn P w Rp.bl ((g.take i).map fun x => (x, true))), a, .un, .un])
    (it_list (pr_var 0)) (tg_name 2 sc_is_grammar.nd) ⟨.un, rfl⟩ ?_ ?_ PassesOwn.never rfl
  · rintro B' i r _ hi ⟨a, rfl⟩
    show PSl _ _ [.dat rGram g, .own (.dcn P w Rp.bl ((g.take i).map fun x => (x, true))), .dat rRule r, .un, .un] _ _
    have hm : r ∈ g := List.mem_of_getElem? hi
    have hnot : r ∉ g.take i := fun hm => by
      obtain ⟨j, hj, e⟩ := List.mem_iff_getElem.mp hm
      rw [List.getElem_take] at e
      have hi' := (List.getElem?_eq_some_iff.mp hi)
      have hi'' : i < g.length := hi'.1
      have hj2 : j < i := by have hj' := hj; rw [List.length_take] at hj'; omega
      have := (List.pairwise_iff_getElem.mp W.nd) j i (by omega) hi'.1 hj2
      exact this (e.trans hi'.2.symm)
    have hl : ((g.take i).map fun x => (x, true)).length ≤ 40 := by rw [List.length_map, List.length_take]; omega
    refine ss_ifF (pb_w (pbw_or (pb_not (pb_val (pr_call D2 (hr.mono (by decide)) r (par_cons (pr_var 2) par_nil) ⟨W.name r hm, W.six r hm, fun p hp => (W.part r hm p hp).imp id fun q => q.1⟩))) fun _ => pbw_or1 (pb_cmp (pr_var 2) (pr_ownN 1) (cmp_inN (hu16 hr))))) ?_ (ss_nil ?_)
    · rw [dhas_mk]; simp [hnot]
    · refine ss_nput 1 pr_bl (pr_var 2) (ss_nil ⟨.dat rRule r, ?_⟩) (hu16 hr) ?_
      · rw [dput_mk _ _ hnot, take_succ hi]
        rfl
      · exact smallL (by omega)
  rintro _ ⟨a, rfl⟩
  refine ss_set 3 (pr_lcm [("rule", 2)] (fun (r : Rule) => r.1) (it_list (pr_var 0)) (fun _ _ _ _ _ => tg_name 2 sc_is_grammar.nd) (fun y hy _ _ _ _ _ => pr_ix (pr_var 2) pr_int ix_P0) (small (by omega)) sc_is_grammar.nd) ?_ sc_is_grammar.nd
  show PSl _ _ [.dat rGram g, .own (.dcn P w Rp.bl ((g.take g.length).map fun x => (x, true))), a, .dat Rp.str.lst (g.map (·.1)), .un] _ _
  refine ss_for (fun i es => ∃ a b, es = [.dat rGram g, a, b, .dat Rp.str.lst (g.map (·.1)), .un])
    (it_list (pr_var 0)) (tg_name 2 sc_is_grammar.nd) ⟨_, _, rfl⟩ ?_ ?_ PassesOwn.never rfl
  · rintro B' i r _ hi ⟨a, b, rfl⟩
    show PSl _ _ [.dat rGram g, a, .dat rRule r, .dat Rp.str.lst (g.map (·.1)), .un] _ _
    have hm : r ∈ g := List.mem_of_getElem? hi
    have h6 := W.six r hm
    refine ss_ifF (pb_not (pb_val (pr_callB (par_cons (pr_l (pr_lcm [("part", 4)] (fun p => isLetter p || decide (p ∈ g.map (·.1))) (it_tup (pr_ix (pr_var 2) pr_int ix_P1)) (fun _ _ _ _ _ => tg_name 4 sc_is_grammar.nd)
      (fun y hy _ _ _ _ _ => ?_) (small (by omega)) sc_is_grammar.nd)) par_nil) M.all (cb_all rfl)))) ?_ (ss_nil (ss_nil ⟨_, _, rfl⟩))
    · exact pr_or (pr_call D1 (hr.mono (by decide)) y (par_cons (pr_var 4) par_nil) trivial) fun _ => pr_one (pr_cmp (pr_var 4) (pr_l (pr_var 3)) cmp_inL)
    · rw [Bool.not_eq_false', List.all_eq_true]
      intro b hb
      obtain ⟨z, hz, rfl⟩ := List.mem_map.mp hb
      rcases W.part r hm z hz with e | e
      · simp [e]
      · have := e.2
        show (isLetter z || decide (z ∈ g.map (·.1))) = true
        rw [decide_eq_true this]; simp
  · rintro _ ⟨a, b, rfl⟩
    exact ss_ret pr_bl fun _ _ h => h
theorem ok_must_be_grammar (T : Top K mg "must_be_grammar" st_must_be_grammar ["grammar"]) (D1 : D_is_grammar P w K mg base) : D_must_be_grammar P w K mg base := T.df fun f fd F => by
  refine fn_pure F sc_must_be_grammar (fun _ => rfl) no1 fun g W cdv Aa outer sh H E B hr => ?_
  show PSl _ _ [.dat rGram g] _ _
  exact ss_ifF (pb_not (pb_val (pr_call D1 hr g (par_cons (pr_var 0) par_nil) W))) rfl (ss_nil (ss_nil fun _ => rfl))
end
end Rw

/-! RwK: rulewright/marks.py; full_names of emptying.py -/
namespace Rw
open PySem PyProof.Rows L2
structure Sm (g : Gram) : Prop where
  len : g.length ≤ 100
  parts : ∀ r ∈ g, r.2.length ≤ 100
theorem WF.sm {g : Gram} (W : WF g) : Sm g := ⟨by have := W.le; omega, fun r hr => by have := W.six r hr; omega⟩
theorem nodup_le {α : Type} [DecidableEq α] : ∀ {l m : List α}, l.Nodup → (∀ x ∈ l, x ∈ m) → l.length ≤ m.length
  | [], _, _, _ => Nat.zero_le _
  | a :: l, m, h, hs => by
    have h' := List.nodup_cons.mp h
    have ha : a ∈ m := hs a (by simp)
    have := nodup_le (l := l) (m := m.erase a) h'.2 fun x hx => by
      have hne : x ≠ a := fun e => h'.1 (e ▸ hx)
      exact (List.mem_erase_of_ne hne).mpr (hs x (by simp [hx]))
    rw [List.length_erase_of_mem ha] at this
    have := List.length_pos_of_mem ha
    rw [List.length_cons]; omega
/-- the state of a growing set in the turns: n bounds the turns left -/
def GrowSt (ok : List Str → Rule → Bool) (g : Gram) (n : Nat) (ks : List Str) (flag : Bool) : Prop :=
  ks.Nodup ∧ (∀ k ∈ ks, k ∈ g.map (·.1)) ∧ ((flag = true ∧ ∃ m, n = m + 1 ∧ growN ok g m ks = grow ok g ∧ g.length + 1 ≤ ks.length + m) ∨ (flag = false ∧ ks = grow ok g))
/-- in the midst of a turn -/
structure GrowIn (ok : List Str → Rule → Bool) (g : Gram) (ks0 : List Str) (i : Nat) (ks : List Str) (flag : Bool) : Prop where
  fold : (g.drop i).foldl (growStep ok) ks = growTurn ok g ks0
  nd : ks.Nodup
  sub : ∀ k ∈ ks, k ∈ g.map (·.1)
  le : ks0.length ≤ ks.length
  flag : flag = decide (ks.length ≠ ks0.length)
section
variable {ok : List Str → Rule → Bool} {g : Gram} {ks ks0 : List Str} {n i : Nat} {flag : Bool} {r : Rule}
theorem GrowSt.init : GrowSt ok g (g.length + 2) [] true := ⟨List.nodup_nil, fun k h => (by cases h), .inl ⟨rfl, g.length + 1, rfl, rfl, by simp⟩⟩
theorem GrowSt.lenK (h : GrowSt ok g n ks flag) : ks.length ≤ g.length := by
  have := nodup_le h.1 h.2.1
  simpa using this
theorem GrowIn.lenK (h : GrowIn ok g ks0 i ks flag) : ks.length ≤ g.length := by
  have := nodup_le h.nd h.sub
  simpa using this
theorem GrowSt.turn (h : GrowSt ok g n ks true) : GrowIn ok g ks 0 ks false := ⟨rfl, h.1, h.2.1, Nat.le_refl _, by simp⟩
theorem GrowIn.yes (h : GrowIn ok g ks0 i ks flag) (hi : g[i]? = some r) (c : (!decide (r.1 ∈ ks) && ok ks r) = true) : GrowIn ok g ks0 (i + 1) (ks ++ [r.1]) true := by
  have hm : r.1 ∉ ks := by simp only [Bool.and_eq_true, Bool.not_eq_true', decide_eq_false_iff_not] at c; exact c.1
  have hd : g.drop i = r :: g.drop (i + 1) := by
    rw [List.drop_eq_getElem_cons (List.getElem?_eq_some_iff.mp hi).1, (List.getElem?_eq_some_iff.mp hi).2]
  refine ⟨?_, ?_, fun k hk => ?_, ?_, ?_⟩
  · have := h.fold
    rw [hd, List.foldl_cons, growStep, if_pos c] at this
    exact this
  · rw [List.nodup_append]
    exact ⟨h.nd, by simp, fun a ha b hb => by simp at hb; subst hb; exact fun e => hm (e ▸ ha)⟩
  · rcases List.mem_append.mp hk with e | e
    · exact h.sub k e
    · simp at e; subst e; exact List.mem_map.mpr ⟨r, List.mem_of_getElem? hi, rfl⟩
  · have := h.le; simp; omega
  · have := h.le; simp; omega
theorem GrowIn.no (h : GrowIn ok g ks0 i ks flag) (hi : g[i]? = some r) (c : (!decide (r.1 ∈ ks) && ok ks r) = false) : GrowIn ok g ks0 (i + 1) ks flag := by
  have hd : g.drop i = r :: g.drop (i + 1) := by
    rw [List.drop_eq_getElem_cons (List.getElem?_eq_some_iff.mp hi).1, (List.getElem?_eq_some_iff.mp hi).2]
  refine ⟨?_, h.nd, h.sub, h.le, h.flag⟩
  have := h.fold
  rw [hd, List.foldl_cons, growStep, c, if_neg Bool.false_ne_true] at this
  exact this
theorem GrowIn.done (h0 : GrowSt ok g n ks0 true) (h : GrowIn ok g ks0 g.length ks flag) : ∃ m, m < n ∧ GrowSt ok g m ks flag := by
  obtain ⟨h1, h2, h3⟩ := h0
  have h0l : ks0.length ≤ g.length := by have := nodup_le h1 h2; simpa using this
  have hk : ks = growTurn ok g ks0 := by have := h.fold; rw [List.drop_length] at this; exact this
  rcases h3 with ⟨_, m, rfl, hg, hl⟩ | ⟨q, _⟩
  · cases m with
    | zero => omega
    | succ m =>
      rw [growN] at hg
      by_cases c : ks.length = ks0.length
      · refine ⟨0, by omega, h.nd, h.sub, .inr ⟨?_, ?_⟩⟩
        · rw [h.flag]; simp [c]
        · rw [if_pos (by rw [← hk]; exact c), ← hk] at hg; exact hg
      · refine ⟨m + 1, by omega, h.nd, h.sub, .inl ⟨by rw [h.flag]; simp [c], m, rfl, ?_, ?_⟩⟩
        · rw [if_neg (by rw [← hk]; exact c), ← hk] at hg; exact hg
        · have := h.le; omega
  · cases q
theorem GrowSt.out (h : GrowSt ok g n ks false) : ks = grow ok g := by
  rcases h.2.2 with ⟨q, _⟩ | ⟨_, q⟩
  · exact absurd q (by decide)
  · exact q
end
theorem namesBy_len (g : Gram) : (namesBy g).length ≤ g.length := by
  unfold namesBy
  have : ∀ (g : Gram) (acc : List Str), (g.foldl namesStep acc).length ≤ acc.length + g.length := by
    intro g
    induction g with
    | nil => intro acc; simp
    | cons r g ih =>
      intro acc
      rw [List.foldl_cons]
      refine Nat.le_trans (ih _) ?_
      unfold namesStep
      split
      · rw [List.length_cons]; omega
      · rw [List.length_append, List.length_cons, List.length_cons, List.length_nil]; omega
  simpa using this g []
section
variable (P : Program) (w : World) (K : PySem.W.Frag) (mg : Str → Option Value) (base : Heap)
abbrev D_makes_by := Df P w K mg base CX0 "makes_by" ["grammar"] 2 (spI K (ι := Gram) (fun g => [.dat rGram g]) Sm Rp.str.lst makesBy)
abbrev D_full_names := Df P w K mg base CX0 "full_names" ["grammar"] 2 (spI K (ι := Gram) (fun g => [.dat rGram g]) Sm Rp.bl.dct fullNames)
end
section
variable {P : Program} {w : World} {K : PySem.W.Frag} {mg : Str → Option Value} {base : Heap}
theorem ok_makes_by (T : Top K mg "makes_by" st_makes_by ["grammar"]) (M : Blt mg) (D1 : D_is_letter P w K mg base) (D2 : D_names_by P w K mg base) : D_makes_by P w K mg base := T.df fun f fd F => by
  refine fn_pure F sc_makes_by (fun _ => rfl) no1 fun g S cdv Aa outer sh H E B hr => ?_
  show PSl _ _ [.dat rGram g, .un, .un, .un, .un, .un] _ _
  have hl := S.len
  refine ss_ownD 1 Rp.bl ?_ sc_makes_by.nd
  refine ss_set 2 pr_bl ?_ sc_makes_by.nd
  refine ss_while (n0 := g.length + 2) (fun n es => ∃ ks flag a b, GrowSt okMake g n ks flag ∧ es = [.dat rGram g, .own (.dct Rp.bl (ks.map fun k => (k, true))), .dat Rp.bl flag, a, b, .un]) ⟨[], true, .un, .un, GrowSt.init, rfl⟩ ?_ PassesOwn.never
  rintro B' n _ ⟨ks, flag, a, b, G0, rfl⟩
  refine ⟨flag, pb_val (pr_var 2), fun hf => ?_, fun hf => ?_⟩
  · subst hf
    refine ss_set 2 pr_bl ?_ sc_makes_by.nd
    refine ss_for (fun i es => ∃ ks' flag a b, GrowIn okMake g ks i ks' flag ∧ es = [.dat rGram g, .own (.dct Rp.bl (ks'.map fun k => (k, true))), .dat Rp.bl flag, a, b, .un])
      (it_list (pr_var 0)) (tg_pair 3 4 rfl sc_makes_by.nd) ⟨ks, false, a, b, G0.turn, rfl⟩ ?_ ?_ PassesOwn.never rfl
    · rintro B' i r _ hi ⟨ks', flag, a, b, GI, rfl⟩
      show PSl _ _ [.dat rGram g, .own (.dct Rp.bl (ks'.map fun k => (k, true))), .dat Rp.bl flag, .dat Rp.str r.1, .dat Rp.str.tup r.2, .un] _ _
      have hp := S.parts r (List.mem_of_getElem? hi)
      have hk := GI.lenK
      refine ss_if2 (k := !decide (r.1 ∈ ks') && okMake ks' r) (pb_w (pbw_and (pb_eq (pb_dni (hu1 hr) (pr_var 3) (pr_ownD 1)) (by rw [dhas_mk])) fun _ => pbw_and1 (pb_val (pr_eq (pr_callB (par_cons (pr_l (pr_lcm [("part", 5)] (fun p => isLetter p || decide (p ∈ ks')) (it_tup (pr_var 4)) (fun _ _ _ _ _ => tg_name 5 sc_makes_by.nd)
          (fun y hy _ _ _ _ _ => pr_or (pr_call D1 (hr.mono (by decide)) y (par_cons (pr_var 5) par_nil) trivial) fun _ => pr_one (pr_eq (pr_din (hu1 hr) (pr_var 5) (pr_ownD 1)) (by rw [dhas_mk]))) (small (by omega)) sc_makes_by.nd)) par_nil) M.all (cb_all rfl)) (by rw [List.all_map]; rfl))))) (fun c => ?_) (fun c => ?_)
      · have hm : r.1 ∉ ks' := by simp only [Bool.and_eq_true, Bool.not_eq_true', decide_eq_false_iff_not] at c; exact c.1
        refine ss_dput 1 pr_bl (pr_var 3) ?_ (hu1 hr) ?_
        · refine ss_set 2 pr_bl (ss_nil (ss_nil ⟨ks' ++ [r.1], true, .dat Rp.str r.1, .dat Rp.str.tup r.2, GI.yes hi c, by rw [dput_mk _ _ hm]; rfl⟩)) sc_makes_by.nd
        · exact smallL (by rw [List.length_map]; omega)
      · exact ss_nil (ss_nil ⟨ks', flag, _, _, GI.no hi c, rfl⟩)
    · rintro _ ⟨ks', flag, a, b, GI, rfl⟩
      obtain ⟨m, hm, G1⟩ := GI.done G0
      exact ss_nil ⟨m, hm, ks', flag, a, b, G1, rfl⟩
  · subst hf
    have e := G0.out
    refine ss_ret (pr_lc [("name", 3)] (c := fun n => decide (n ∈ ks)) (f := fun n => n) (it_list (pr_call D2 (hr.mono (by decide)) g (par_cons (pr_var 0) par_nil) hl)) (fun _ _ _ _ _ => tg_name 3 sc_makes_by.nd)
      (fun y hy _ _ _ _ _ => pts_1 (pb_eq (pb_din (hu1 hr) (pr_var 3) (pr_ownD 1)) (by rw [dhas_mk]))) (fun y hy _ _ _ _ _ _ => pr_var 3) (small (by have := namesBy_len g; omega)) sc_makes_by.nd) fun G v h => ?_
    rw [e, List.map_id'] at h
    exact h
theorem ok_full_names (T : Top K mg "full_names" st_full_names ["grammar"]) (M : Blt mg) (D1 : D_is_letter P w K mg base) : D_full_names P w K mg base := T.df fun f fd F => by
  refine fn_pure F sc_full_names (fun _ => rfl) no1 fun g S cdv Aa outer sh H E B hr => ?_
  show PSl _ _ [.dat rGram g, .un, .un, .un, .un, .un] _ _
  have hl := S.len
  refine ss_ownD 1 Rp.bl ?_ sc_full_names.nd
  refine ss_set 2 pr_bl ?_ sc_full_names.nd
  refine ss_while (n0 := g.length + 2) (fun n es => ∃ ks flag a b, GrowSt okFull g n ks flag ∧ es = [.dat rGram g, .own (.dct Rp.bl (ks.map fun k => (k, true))), .dat Rp.bl flag, a, b, .un]) ⟨[], true, .un, .un, GrowSt.init, rfl⟩ ?_ PassesOwn.never
  rintro B' n _ ⟨ks, flag, a, b, G0, rfl⟩
  refine ⟨flag, pb_val (pr_var 2), fun hf => ?_, fun hf => ?_⟩
  · subst hf
    refine ss_set 2 pr_bl ?_ sc_full_names.nd
    refine ss_for (fun i es => ∃ ks' flag a b, GrowIn okFull g ks i ks' flag ∧ es = [.dat rGram g, .own (.dct Rp.bl (ks'.map fun k => (k, true))), .dat Rp.bl flag, a, b, .un])
      (it_list (pr_var 0)) (tg_pair 3 4 rfl sc_full_names.nd) ⟨ks, false, a, b, G0.turn, rfl⟩ ?_ ?_ PassesOwn.never rfl
    · rintro B' i r _ hi ⟨ks', flag, a, b, GI, rfl⟩
      show PSl _ _ [.dat rGram g, .own (.dct Rp.bl (ks'.map fun k => (k, true))), .dat Rp.bl flag, .dat Rp.str r.1, .dat Rp.str.tup r.2, .un] _ _
      have hp := S.parts r (List.mem_of_getElem? hi)
      have hk := GI.lenK
      refine ss_if2 (k := !decide (r.1 ∈ ks') && okFull ks' r) (pb_w (pbw_and (pb_eq (pb_dni (hu1 hr) (pr_var 3) (pr_ownD 1)) (by rw [dhas_mk])) fun _ => pbw_and1 (pb_eq (pb_cmp (pr_callB (par_cons (pr_l (pr_lc [("part", 5)] (c := fun p => isLetter p || decide (p ∈ ks')) (f := fun p => p) (it_tup (pr_var 4)) (fun _ _ _ _ _ => tg_name 5 sc_full_names.nd)
          (fun y hy _ _ _ _ _ => pts_1 (pb_w (pbw_or (pb_val (pr_call D1 (hr.mono (by decide)) y (par_cons (pr_var 5) par_nil) trivial)) fun _ => pbw_or1 (pb_eq (pb_din (hu1 hr) (pr_var 5) (pr_ownD 1)) (by rw [dhas_mk]))))) (fun y hy _ _ _ _ _ _ => pr_var 5) (small (by omega)) sc_full_names.nd)) par_nil) M.len cb_lenL) pr_int cmp_gt) ?_))) (fun c => ?_) (fun c => ?_)
      · unfold okFull
        rw [List.map_id', Bool.eq_iff_iff, decide_eq_true_eq, List.any_eq_true]
        constructor
        · intro h
          have : 0 < (r.2.filter fun p => isLetter p || decide (p ∈ ks')).length := by omega
          obtain ⟨x, hx⟩ := List.exists_mem_of_length_pos this
          exact ⟨x, (List.mem_filter.mp hx).1, (List.mem_filter.mp hx).2⟩
        · rintro ⟨x, hx, hc⟩
          have := List.length_pos_of_mem (List.mem_filter (p := fun p => isLetter p || decide (p ∈ ks')).mpr ⟨hx, hc⟩)
          omega
      · have hm : r.1 ∉ ks' := by simp only [Bool.and_eq_true, Bool.not_eq_true', decide_eq_false_iff_not] at c; exact c.1
        refine ss_dput 1 pr_bl (pr_var 3) ?_ (hu1 hr) ?_
        · refine ss_set 2 pr_bl (ss_nil (ss_nil ⟨ks' ++ [r.1], true, .dat Rp.str r.1, .dat Rp.str.tup r.2, GI.yes hi c, by rw [dput_mk _ _ hm]; rfl⟩)) sc_full_names.nd
        · exact smallL (by rw [List.length_map]; omega)
      · exact ss_nil (ss_nil ⟨ks', flag, _, _, GI.no hi c, rfl⟩)
    · rintro _ ⟨ks', flag, a, b, GI, rfl⟩
      obtain ⟨m, hm, G1⟩ := GI.done G0
      exact ss_nil ⟨m, hm, ks', flag, a, b, G1, rfl⟩
  · subst hf
    have e := G0.out
    refine ss_frzD 1 ?_
    refine ss_ret (pr_var 1) fun G v h => ?_
    rw [e] at h
    exact h
end
end Rw

/-! RwR: trees; rulewright/trees.py -/
namespace Rw
open PySem PyProof.Rows L2
mutual
inductive TrR (K : PySem.W.Frag) (G : Hp) : V → Tr → Prop where
  | leaf {s : Str} : SOk s → TrR K G (.str s) (.leaf s)
  | node {p q : Addr} {n : Int} {vs : List V} {ts : List Tr} : SqT K G p [.int n, .ref q] → SqT K G q vs → TrRs K G vs ts → ts.length ≤ 1000000 → TrR K G (.ref p) (.node n ts)
inductive TrRs (K : PySem.W.Frag) (G : Hp) : List V → List Tr → Prop where
  | nil : TrRs K G [] []
  | cons {v : V} {t : Tr} {vs : List V} {ts : List Tr} : TrR K G v t → TrRs K G vs ts → TrRs K G (v :: vs) (t :: ts)
end
mutual
theorem tr_mono {K : PySem.W.Frag} {G G' : Hp} (s : Same G G') : ∀ (t : Tr) (v : V), TrR K G v t → TrR K G' v t
  | .leaf _, _, h => by cases h with | leaf h => exact .leaf h
  | .node _ ts, _, h => by cases h with | node h1 h2 h3 h4 => exact .node (same_t s h1) (same_t s h2) (trs_mono s ts _ h3) h4
theorem trs_mono {K : PySem.W.Frag} {G G' : Hp} (s : Same G G') : ∀ (ts : List Tr) (vs : List V), TrRs K G vs ts → TrRs K G' vs ts
  | [], _, h => by cases h; exact .nil
  | t :: ts, _, h => by cases h with | cons h1 h2 => exact .cons (tr_mono s t _ h1) (trs_mono s ts _ h2)
end
def Rp.tr : Rp Tr := ⟨fun K G v t => TrR K G v t, fun s h => tr_mono s _ _ h⟩
theorem trs_p {K : PySem.W.Frag} {G : Hp} : ∀ {vs : List V} {ts : List Tr}, TrRs K G vs ts → Paired (Rp.tr.rel K G) vs ts
  | _, [], h => by cases h; exact .nil
  | _, _ :: _, h => by cases h with | cons h1 h2 => exact .cons h1 (trs_p h2)
theorem p_trs {K : PySem.W.Frag} {G : Hp} : ∀ {vs : List V} {ts : List Tr}, Paired (Rp.tr.rel K G) vs ts → TrRs K G vs ts
  | _, _, .nil => .nil
  | _, _, .cons h t => .cons h (p_trs t)
theorem len6 {n : Nat} (h : n ≤ 1000000) : n ≤ sizeLine := Nat.le_trans h (by decide)
abbrev rNode : Rp (Int × List Tr) := Rp.int.pair Rp.tr.tup
theorem node_of {K : PySem.W.Frag} {G : Hp} {v : V} {n : Int} {ts : List Tr} (hz : ts.length ≤ 1000000) (h : rNode.rel K G v (n, ts)) : Rp.tr.rel K G v (.node n ts) := by
  obtain ⟨p, u, w, rfl, h1, h2, q, vs, rfl, h3, h4, h5⟩ := h
  have h2 : u = .int n := h2
  subst h2
  exact .node h1 h3 (p_trs h4) hz
theorem of_node {K : PySem.W.Frag} {G : Hp} {v : V} {n : Int} {ts : List Tr} (h : Rp.tr.rel K G v (.node n ts)) : rNode.rel K G v (n, ts) := by
  cases h with
  | node h1 h2 h3 h4 => exact ⟨_, _, _, rfl, h1, rfl, _, _, rfl, h2, trs_p h3, Nat.le_trans h4 (by decide)⟩
theorem leaf_of {K : PySem.W.Frag} {G : Hp} {v : V} {s : Str} (h : Rp.str.rel K G v s) : Rp.tr.rel K G v (.leaf s) := by
  obtain ⟨rfl, h⟩ := h
  exact .leaf h
theorem of_leaf {K : PySem.W.Frag} {G : Hp} {v : V} {s : Str} (h : Rp.tr.rel K G v (.leaf s)) : Rp.str.rel K G v s := by
  cases h with
  | leaf h => exact ⟨rfl, h⟩
/-- a slot seen by another representation -/
theorem Slots.conv {K : PySem.W.Frag} {B : Bs} {es : List Sl} {σ : L2.St} {G H : Hp} {ps : List Addr} (h : Slots K B G H es σ ps) {i : Nat} {α β : Type} {A : Rp α} {a : α} {C : Rp β} {c : β} (e : es[i]? = some (.dat A a)) (k : ∀ v, A.rel K G v a → C.rel K G v c) : Slots K B G H (es.set i (.dat C c)) σ ps := by
  induction h generalizing i with
  | nil => simp at e
  | un h ih =>
    cases i with
    | zero => simp at e
    | succ i => exact .un (ih (i := i) (by simpa using e))
  | dat h1 h ih =>
    cases i with
    | zero =>
      simp only [List.getElem?_cons_zero, Option.some.injEq, Sl.dat.injEq] at e
      obtain ⟨rfl, e2, e3⟩ := e
      cases e2; cases e3
      exact .dat (k _ h1) h
    | succ i => exact .dat h1 (ih (i := i) (by simpa using e))
  | own h1 h2 h3 h4 h ih =>
    cases i with
    | zero => simp at e
    | succ i => exact .own h1 h2 h3 h4 (ih (i := i) (by simpa using e))
  | fam h1 h2 h ih =>
    cases i with
    | zero => simp at e
    | succ i => exact .fam h1 h2 (ih (i := i) (by simpa using e))
section
variable {X : Cx} {B : Bs} {es : List Sl} {sts : List Stmt} {O : Out} {e a : Expr} {pos p : Pos}
theorem ss_conv (i : Nat) {α β : Type} {A : Rp α} {a : α} {C : Rp β} {c : β} (k : ∀ G v, A.rel X.K G v a → C.rel X.K G v c) (r : PSl X B (es.set i (.dat C c)) sts O) (h : es[i]? = some (.dat A a) := by rfl) : PSl X B es sts O :=
  pss_imp r fun D σ H ⟨G, E, q⟩ => ⟨G, ⟨E.st, let ⟨ps, s, n⟩ := E.sl; ⟨ps, s.conv h (k G), n⟩⟩, q⟩
theorem pr_conv {α β : Type} {A : Rp α} {a : α} {C : Rp β} {c : β} (h : PR X B es e (A.at a)) (k : ∀ G v, A.rel X.K G v a → C.rel X.K G v c) : PR X B es e (C.at c) := pr_wk h fun G _ v _ r => k G v r
theorem ss_know {φ : Prop} (k : ∀ σ G H, EnvA X.K B es σ G H → φ) (h : φ → PSl X B es sts O) : PSl X B es sts O := ⟨fun pins s σ H D I ⟨G, E, q⟩ => (h (k σ G H E)).run pins s σ H D I ⟨G, E, q⟩⟩
theorem ss_lenTr (i : Nat) {n : Int} {ts : List Tr} (h : ts.length ≤ 1000000 → PSl X B es sts O) (he : es[i]? = some (.dat Rp.tr (.node n ts)) := by rfl) : PSl X B es sts O :=
  ss_know (fun σ G H E => by
    obtain ⟨v, _, h⟩ := E.get he
    cases h with
    | node _ _ _ z => exact z) h
theorem ss_lenL (i : Nat) {α : Type} {A : Rp α} {xs : List α} (h : xs.length ≤ sizeLine → PSl X B es sts O) (he : es[i]? = some (.dat A.lst xs) := by rfl) : PSl X B es sts O :=
  ss_know (fun σ G H E => by
    obtain ⟨v, _, p, vs, _, _, _, z⟩ := E.get he
    exact z) h
theorem ss_lenT (i : Nat) {α : Type} {A : Rp α} {xs : List α} (h : xs.length ≤ sizeLine → PSl X B es sts O) (he : es[i]? = some (.dat A.tup xs) := by rfl) : PSl X B es sts O :=
  ss_know (fun σ G H E => by
    obtain ⟨v, _, p, vs, _, _, _, z⟩ := E.get he
    exact z) h
def isLeaf : Tr → Bool
  | .leaf _ => true
  | .node _ _ => false
theorem ty_tr {t : Tr} {K : PySem.W.Frag} {G H : Hp} {v : V} (s : Same G H) (r : (Rp.tr.at t).r K G H v) : TyX K H v (.type (if isLeaf t then "str" else "tuple")) := by
  cases t with
  | leaf x => exact ty_str (x := x) (G := G) (of_leaf r)
  | node n ts => exact ty_pair s (of_node r)
theorem cb_isStr {t : Tr} : Cb X (.builtin "isinstance") [Rp.tr.at t, rTy "str"] (Rp.bl.at (isLeaf t)) := by
  cases t with
  | leaf x => exact cb_isi (t := "str") (k := true) (fun G H v s r => ty_tr s r) (by decide +kernel)
  | node n ts => exact cb_isi (t := "tuple") (k := false) (fun G H v s r => ty_tr s r) (by decide +kernel)
theorem cb_isTup {t : Tr} : Cb X (.builtin "isinstance") [Rp.tr.at t, rTy "tuple"] (Rp.bl.at (!isLeaf t)) := by
  cases t with
  | leaf x => exact cb_isi (t := "str") (k := false) (fun G H v s r => ty_tr s r) (by decide +kernel)
  | node n ts => exact cb_isi (t := "tuple") (k := true) (fun G H v s r => ty_tr s r) (by decide +kernel)
end
/-! plain laws of trees -/
theorem upTo_mem {n : Nat} {k : Int} (h : k ∈ upTo n) : 0 ≤ k ∧ k < n := by
  obtain ⟨j, hj, rfl⟩ := List.mem_map.mp h
  have := List.mem_range.mp hj
  constructor
  · exact Int.natCast_nonneg j
  · show (j : Int) < n
    have e : ((n : Int)).toNat = n := by simp
    omega
theorem upTo_len (n : Nat) : (upTo n).length = n := by simp [upTo]
theorem upTo_map {β : Type} (n : Nat) (f : Int → β) : (upTo n).map f = (List.range n).map fun (k : Nat) => f k := by
  unfold upTo
  rw [List.map_map]
  simp
theorem gi_nat {α : Type} [Inhabited α] (xs : List α) (k : Nat) : gi xs (k : Int) = xs.getD k default := by
  unfold gi; simp
theorem fitsL_all (g : Gram) : ∀ (ps : List Str) (ts : List Tr), ps.length = ts.length → ((upTo ps.length).map fun k => fitsB g (gi ps k) (gi ts k)).all id = fitsL g ps ts := by
  intro ps ts h
  rw [upTo_map]
  simp only [gi_nat]
  induction ps generalizing ts with
  | nil =>
    cases ts with
    | nil => simp [fitsL]
    | cons _ _ => simp at h
  | cons p ps ih =>
    cases ts with
    | nil => simp at h
    | cons t ts =>
      have ih := ih ts (by simpa using h)
      rw [List.length_cons, List.range_succ_eq_map, List.map_cons, List.map_map, List.all_cons, fitsL, ← ih]
      rfl
theorem fitsL_len {g : Gram} : ∀ {ps : List Str} {ts : List Tr}, fitsL g ps ts = true → ps.length = ts.length
  | [], [], _ => rfl
  | [], _ :: _, h => by simp [fitsL] at h
  | _ :: _, [], h => by simp [fitsL] at h
  | _ :: ps, _ :: ts, h => by
    rw [fitsL, Bool.and_eq_true] at h
    rw [List.length_cons, List.length_cons, fitsL_len h.2]
theorem countL_sum : ∀ ts : List Tr, countL ts = (ts.map count).sum
  | [] => rfl
  | t :: ts => by rw [countL, List.map_cons, List.sum_cons, countL_sum ts]
theorem depth_le {t : Tr} : ∀ {ts : List Tr}, t ∈ ts → depth t ≤ depthL ts
  | u :: ts, h => by
    rw [depthL]
    rcases List.mem_cons.mp h with e | e
    · subst e; omega
    · have := depth_le e; omega
theorem depthL_mem : ∀ ts : List Tr, (depthL ts : Int) ∈ ([0] ++ ts.map fun t => (depth t : Int)) := by
  intro ts
  induction ts with
  | nil => simp [depthL]
  | cons t ts ih =>
    rw [depthL]
    by_cases h : depth t ≤ depthL ts
    · rw [Nat.max_eq_right h]
      rcases List.mem_append.mp ih with q | q
      · simp only [List.mem_append]; exact .inl q
      · simp only [List.mem_append, List.map_cons, List.mem_cons]; exact .inr (.inr q)
    · rw [Nat.max_eq_left (by omega)]
      simp
theorem depthL_top (ts : List Tr) : ∀ y ∈ ([0] ++ ts.map fun t => (depth t : Int)), y ≤ (depthL ts : Int) := by
  intro y hy
  rcases List.mem_append.mp hy with q | q
  · simp at q; subst q; omega
  · obtain ⟨t, ht, rfl⟩ := List.mem_map.mp q
    have := depth_le ht
    omega
mutual
/-- all numbers lie below m -/
def inB (m : Nat) : Tr → Bool
  | .leaf _ => true
  | .node n ts => decide (0 ≤ n) && decide (n < m) && inBL m ts
def inBL (m : Nat) : List Tr → Bool
  | [] => true
  | t :: ts => inB m t && inBL m ts
end
theorem inBL_mem {m : Nat} : ∀ {ts : List Tr}, inBL m ts = true → ∀ t ∈ ts, inB m t = true
  | [], _, t, h => by cases h
  | u :: ts, hb, t, h => by
    rw [inBL, Bool.and_eq_true] at hb
    rcases List.mem_cons.mp h with e | e
    · subst e; exact hb.1
    · exact inBL_mem hb.2 t e
theorem renumL_map (ns : List Int) : ∀ ts : List Tr, renumL ns ts = ts.map (renum ns)
  | [] => rfl
  | t :: ts => by rw [renumL, List.map_cons, renumL_map ns ts]
theorem letsL_flat : ∀ ts : List Tr, letsL ts = (ts.map lets).flatten
  | [] => rfl
  | t :: ts => by rw [letsL, List.map_cons, List.flatten_cons, letsL_flat ts]
section
variable (P : Program) (w : World) (K : PySem.W.Frag) (mg : Str → Option Value) (base : Heap)
abbrev D_fits (n : Nat) := Df P w K mg base CX0 "fits" ["grammar", "part", "tree"] (n + 1) (spI K (ι := Gram × Str × Tr) (fun i => [.dat rGram i.1, .dat Rp.str i.2.1, .dat Rp.tr i.2.2]) (fun i => Sm i.1 ∧ depth i.2.2 ≤ n) Rp.bl (fun i => fitsB i.1 i.2.1 i.2.2))
abbrev D_count (x : Str) (n : Nat) := Df P w K mg base CX0 x ["tree"] (n + 1) (spI K (ι := Tr) (fun t => [.dat Rp.tr t]) (fun t => depth t ≤ n) Rp.int count)
abbrev D_depth (x : Str) (n : Nat) := Df P w K mg base CX0 x ["tree"] (n + 1) (spI K (ι := Tr) (fun t => [.dat Rp.tr t]) (fun t => depth t ≤ n) Rp.int (fun t => (depth t : Int)))
abbrev D_renum (x : Str) (n : Nat) := Df P w K mg base CX0 x ["tree", "numbers"] (n + 1) (spI K (ι := Tr × List Int) (fun i => [.dat Rp.tr i.1, .dat Rp.int.lst i.2]) (fun i => depth i.1 ≤ n ∧ inB i.2.length i.1 = true) Rp.tr (fun i => renum i.2 i.1))
abbrev D_letters (n : Nat) := Df P w K mg base CX0 "_law_letters" ["tree"] (n + 1) (spI K (ι := Tr) (fun t => [.dat Rp.tr t]) (fun t => depth t ≤ n ∧ SOk ⟨(lets t).toArray⟩) Rp.str (fun t => ⟨(lets t).toArray⟩))
abbrev D_is_tree_of (n : Nat) := Df P w K mg base CX0 "is_tree_of" ["grammar", "part", "tree"] (n + 2) (spI K (ι := Gram × Str × Tr) (fun i => [.dat rGram i.1, .dat Rp.str i.2.1, .dat Rp.tr i.2.2]) (fun i => Sm i.1 ∧ depth i.2.2 ≤ n) Rp.bl (fun i => isTreeOf i.1 i.2.1 i.2.2))
abbrev D_is_tree (n : Nat) := Df P w K mg base CX0 "is_tree" ["grammar", "tree"] (n + 5) (spI K (ι := Gram × Tr) (fun i => [.dat rGram i.1, .dat Rp.tr i.2]) (fun i => WF i.1 ∧ depth i.2 ≤ n) Rp.bl (fun i => isTree i.1 i.2))
end
section
variable {P : Program} {w : World} {K : PySem.W.Frag} {mg : Str → Option Value} {base : Heap}
theorem ok_fits (T : Top K mg "fits" st_fits ["grammar", "part", "tree"]) (M : Blt mg) : ∀ n, D_fits P w K mg base n := by
  have step : ∀ n, (∀ m, n = m + 1 → D_fits P w K mg base m) → D_fits P w K mg base n := fun n ih => T.df fun f fd F => by
    refine fn_pure F sc_fits (fun _ => rfl) no3 fun ⟨g, part, t⟩ ⟨S, hd⟩ cdv Aa outer sh H E B hr => ?_
    show PSl _ _ [.dat rGram g, .dat Rp.str part, .dat Rp.tr t, .un, .un, .un, .un] _ _
    have S : Sm g := S
    have hl := S.len
    have hd : depth t ≤ n := hd
    refine ss_if2 (pb_val (pr_callB (par_cons (pr_var 2) (par_cons (pr_ty M.str) par_nil)) M.isinstance cb_isStr)) (fun c => ?_) (fun c => ?_)
    · cases t with
      | node _ _ => cases c
      | leaf s =>
        refine ss_conv 2 (fun _ _ h => of_leaf h) ?_
        refine ss_ret (A := Rp.bl) (d := fitsB g part (.leaf s)) (pr_eq (pr_and (l := isLetter part) (pr_cmp (pr_var 2) (pr_var 1) cmp_eqS) fun _ => pr_eq (pr_and (l := isLetter part) (pr_cmp (pr_callB (par_cons (pr_var 1) par_nil) M.len cb_lenS) pr_int cmp_eqI) fun h => pr_one ?_) ?_) ?_) fun _ _ h => h
        · have h1 : part.length = 1 := by have := of_decide_eq_true h; omega
          obtain ⟨c, rfl⟩ := len1 h1
          exact pr_cmp (pr_var 1) pr_str cmp_inAl
        · by_cases h : part.length = 1
          · simp [h]
          · rw [isLetter_len h]; simp
        · rw [fitsB]
    · cases t with
      | leaf _ => cases c
      | node k ts =>
        refine ss_nil ?_
        cases n with
        | zero => simp only [depth] at hd; omega
        | succ n =>
        have D := ih n rfl
        refine ss_conv 2 (fun _ _ h => of_node h) ?_
        refine ss_pair 3 4 (pr_var 2) ?_ rfl sc_fits.nd (tg_pair 3 4 rfl sc_fits.nd)
        show PSl _ _ [.dat rGram g, .dat Rp.str part, .dat rNode (k, ts), .dat Rp.int k, .dat Rp.tr.tup ts, .un, .un] _ _
        have hk : ∀ t' ∈ ts, depth t' ≤ n := fun t' ht => by
          have := depth_le ht
          rw [depth] at hd; omega
        refine ss_if2 (k := decide (k < 0) || (decide ((g.length : Int) ≤ k) || !decide ((gi g k).1 = part))) (pb_w (pbw_or (pb_cmp (pr_var 3) pr_int cmp_lt) fun h1 => pbw_or (pb_cmp (pr_var 3) (pr_callB (par_cons (pr_l (pr_var 0)) par_nil) M.len cb_lenL) cmp_ge) fun h2 => pbw_or1 ?_)) (fun c => ?_) (fun c => ?_)
        · have h1 : ¬ k < 0 := of_decide_eq_false h1
          have h2 : ¬ (g.length : Int) ≤ k := of_decide_eq_false h2
          exact pb_cmp (pr_ix (pr_ix (pr_l (pr_var 0)) (pr_var 3) (ix_L (atI_gi (by omega) (by omega)))) pr_int ix_P0) (pr_var 1) cmp_neS
        · refine ss_ret pr_bl fun G v h => ?_
          have : fitsB g part (.node k ts) = false := by
            rw [fitsB]
            by_cases h1 : k < 0
            · rw [decide_eq_false (show ¬ 0 ≤ k by omega)]; rfl
            · by_cases h2 : (g.length : Int) ≤ k
              · rw [decide_eq_false (show ¬ k < (g.length : Int) by omega)]; simp
              · have h3 : decide ((gi g k).1 = part) = false := by
                  rw [decide_eq_false h1, decide_eq_false h2] at c
                  simpa using c
                rw [h3]; simp
          rw [this]; exact h
        · rw [Bool.or_eq_false_iff, Bool.or_eq_false_iff] at c
          obtain ⟨c1, c2, c3⟩ := c
          have h1 : ¬ k < 0 := of_decide_eq_false c1
          have h2 : ¬ (g.length : Int) ≤ k := of_decide_eq_false c2
          have h3 : decide ((gi g k).1 = part) = true := by simpa using c3
          have hm : gi g k ∈ g := by
            have := atI_gi (xs := g) (i := k) (by omega) (by omega)
            unfold atI at this
            obtain ⟨j, _, hj⟩ := Option.bind_eq_some_iff.mp this
            exact List.mem_of_getElem? hj
          have hp := S.parts _ hm
          have e0 : fitsB g part (.node k ts) = fitsL g (gi g k).2 ts := by
            rw [fitsB, h3, decide_eq_true (show 0 ≤ k by omega), decide_eq_true (show k < (g.length : Int) by omega)]; rfl
          refine ss_nil ?_
          refine ss_set 5 (pr_ix (pr_ix (pr_l (pr_var 0)) (pr_var 3) (ix_L (atI_gi (by omega) (by omega)))) pr_int ix_P1) ?_ sc_fits.nd
          refine ss_if2 (pb_cmp (pr_callB (par_cons (pr_var 4) par_nil) M.len cb_lenT) (pr_callB (par_cons (pr_var 5) par_nil) M.len cb_lenT) cmp_neI) (fun c => ?_) (fun c => ?_)
          · refine ss_ret pr_bl fun G v h => ?_
            have : fitsL g (gi g k).2 ts = false := by
              cases e : fitsL g (gi g k).2 ts with
              | false => rfl
              | true => have := fitsL_len e; simp [this] at c
            show Rp.bl.rel K G v (fitsB g part (.node k ts))
            rw [e0, this]; exact h
          · have c : (gi g k).2.length = ts.length := by simp at c; omega
            refine ss_nil ?_
            refine ss_ret (A := Rp.bl) (d := fitsB g part (.node k ts)) (pr_eq (pr_callB (par_cons (pr_l (pr_lcm [("k", 6)] (fun j => fitsB g (gi (gi g k).2 j) (gi ts j)) (it_range (pr_callB (par_cons (pr_var 5) par_nil) M.len cb_lenT) (by omega) (by omega) M.range) (fun _ _ _ _ _ => tg_name 6 sc_fits.nd)
              (fun y hy _ _ _ _ _ => ?_) (by rw [upTo_len]; exact small (by omega)) sc_fits.nd)) par_nil) M.all (cb_all rfl)) (by rw [fitsL_all g _ _ c, e0])) fun _ _ h => h
            have hy := upTo_mem hy
            refine pr_call D hr (g, gi (gi g k).2 y, gi ts y) (par_cons (pr_var 0) (par_cons (pr_ix (pr_var 5) (pr_var 6) (ix_T (atI_gi hy.1 hy.2))) (par_cons (pr_ix (pr_var 4) (pr_var 6) (ix_T (atI_gi hy.1 (by omega)))) par_nil))) ⟨S, hk _ ?_⟩
            have := atI_gi (xs := ts) (i := y) hy.1 (by omega)
            unfold atI at this
            obtain ⟨j, _, hj⟩ := Option.bind_eq_some_iff.mp this
            exact List.mem_of_getElem? hj
  intro n
  induction n with
  | zero => exact step 0 fun m h => by omega
  | succ n ih => exact step (n + 1) fun m h => by have : m = n := by omega
                                                  subst this; exact ih
theorem ok_count_of (T : Top K mg "count_of" st_count_of ["tree"]) (M : Blt mg) : ∀ n, D_count P w K mg base "count_of" n := by
  have step : ∀ n, (∀ m, n = m + 1 → D_count P w K mg base "count_of" m) → D_count P w K mg base "count_of" n := fun n ih => T.df fun f fd F => by
    refine fn_pure F sc_count_of (fun _ => rfl) no1 fun t hd cdv Aa outer sh H E B hr => ?_
    show PSl _ _ [.dat Rp.tr t, .un] _ _
    refine ss_if2 (pb_val (pr_callB (par_cons (pr_var 0) (par_cons (pr_ty M.str) par_nil)) M.isinstance cb_isStr)) (fun c => ?_) (fun c => ?_)
    · cases t with
      | node _ _ => cases c
      | leaf s => exact ss_ret pr_int fun _ _ h => h
    · cases t with
      | leaf _ => cases c
      | node k ts =>
        refine ss_nil ?_
        cases n with
        | zero => simp only [depth] at hd; omega
        | succ n =>
        have D := ih n rfl
        refine ss_lenTr 0 fun hlen => ?_
        refine ss_conv 0 (fun _ _ h => of_node h) ?_
        have hk : ∀ t' ∈ ts, depth t' ≤ n := fun t' ht => by
          have := depth_le ht
          rw [depth] at hd; omega
        exact ss_ret (A := Rp.int) (d := count (.node k ts)) (pr_eq (pr_bin pr_int (pr_callB (par_cons (pr_l (pr_lcm [("one", 1)] count (it_tup (pr_ix (pr_var 0) pr_int ix_P1)) (fun _ _ _ _ _ => tg_name 1 sc_count_of.nd)
          (fun y hy _ _ _ _ _ => pr_call D hr y (par_cons (pr_var 1) par_nil) (hk y hy)) (len6 hlen) sc_count_of.nd)) par_nil) M.sum (cb_sum rfl)) bin_add) (by rw [count, countL_sum])) fun _ _ h => h
  intro n
  induction n with
  | zero => exact step 0 fun m h => by omega
  | succ n ih => exact step (n + 1) fun m h => by have : m = n := by omega
                                                  subst this; exact ih
theorem ok__law_count (T : Top K mg "_law_count" st__law_count ["tree"]) (M : Blt mg) : ∀ n, D_count P w K mg base "_law_count" n := by
  have step : ∀ n, (∀ m, n = m + 1 → D_count P w K mg base "_law_count" m) → D_count P w K mg base "_law_count" n := fun n ih => T.df fun f fd F => by
    refine fn_pure F sc__law_count (fun _ => rfl) no1 fun t hd cdv Aa outer sh H E B hr => ?_
    show PSl _ _ [.dat Rp.tr t, .un] _ _
    refine ss_if2 (pb_val (pr_callB (par_cons (pr_var 0) (par_cons (pr_ty M.str) par_nil)) M.isinstance cb_isStr)) (fun c => ?_) (fun c => ?_)
    · cases t with
      | node _ _ => cases c
      | leaf s => exact ss_ret pr_int fun _ _ h => h
    · cases t with
      | leaf _ => cases c
      | node k ts =>
        refine ss_nil ?_
        cases n with
        | zero => simp only [depth] at hd; omega
        | succ n =>
        have D := ih n rfl
        refine ss_lenTr 0 fun hlen => ?_
        refine ss_conv 0 (fun _ _ h => of_node h) ?_
        have hk : ∀ t' ∈ ts, depth t' ≤ n := fun t' ht => by
          have := depth_le ht
          rw [depth] at hd; omega
        exact ss_ret (A := Rp.int) (d := count (.node k ts)) (pr_eq (pr_bin pr_int (pr_callB (par_cons (pr_l (pr_lcm [("one", 1)] count (it_tup (pr_ix (pr_var 0) pr_int ix_P1)) (fun _ _ _ _ _ => tg_name 1 sc__law_count.nd)
          (fun y hy _ _ _ _ _ => pr_call D hr y (par_cons (pr_var 1) par_nil) (hk y hy)) (len6 hlen) sc__law_count.nd)) par_nil) M.sum (cb_sum rfl)) bin_add) (by rw [count, countL_sum])) fun _ _ h => h
  intro n
  induction n with
  | zero => exact step 0 fun m h => by omega
  | succ n ih => exact step (n + 1) fun m h => by have : m = n := by omega
                                                  subst this; exact ih
theorem ok_renumbered (T : Top K mg "renumbered" st_renumbered ["tree", "numbers"]) (M : Blt mg) : ∀ n, D_renum P w K mg base "renumbered" n := by
  have step : ∀ n, (∀ m, n = m + 1 → D_renum P w K mg base "renumbered" m) → D_renum P w K mg base "renumbered" n := fun n ih => T.df fun f fd F => by
    refine fn_pure F sc_renumbered (fun _ => rfl) no2 fun ⟨t, ns⟩ ⟨hd, hb⟩ cdv Aa outer sh H E B hr => ?_
    show PSl _ _ [.dat Rp.tr t, .dat Rp.int.lst ns, .un] _ _
    have hd : depth t ≤ n := hd
    have hb : inB ns.length t = true := hb
    refine ss_if2 (pb_val (pr_callB (par_cons (pr_var 0) (par_cons (pr_ty M.str) par_nil)) M.isinstance cb_isStr)) (fun c => ?_) (fun c => ?_)
    · cases t with
      | node _ _ => cases c
      | leaf s => exact ss_ret (pr_var 0) fun _ _ h => h
    · cases t with
      | leaf _ => cases c
      | node k ts =>
        refine ss_nil ?_
        cases n with
        | zero => simp only [depth] at hd; omega
        | succ n =>
        have D := ih n rfl
        refine ss_lenTr 0 fun hlen => ?_
        refine ss_conv 0 (fun _ _ h => of_node h) ?_
        have hk : ∀ t' ∈ ts, depth t' ≤ n := fun t' ht => by
          have := depth_le ht
          rw [depth] at hd; omega
        rw [inB, Bool.and_eq_true, Bool.and_eq_true] at hb
        have h1 := of_decide_eq_true hb.1.1
        have h2 := of_decide_eq_true hb.1.2
        refine ss_ret (pr_pair (pr_ix (pr_l (pr_var 1)) (pr_ix (pr_var 0) pr_int ix_P0) (ix_L (atI_gi h1 h2))) (pr_callT (par_cons (pr_l (pr_lcm [("one", 2)] (renum ns) (it_tup (pr_ix (pr_var 0) pr_int ix_P1)) (fun _ _ _ _ _ => tg_name 2 sc_renumbered.nd)
          (fun y hy _ _ _ _ _ => pr_call D hr (y, ns) (par_cons (pr_var 2) (par_cons (pr_var 1) par_nil)) ⟨hk y hy, inBL_mem hb.2 y hy⟩) (len6 hlen) sc_renumbered.nd)) par_nil) M.tuple cb_tuple)) fun G v h => ?_
        show Rp.tr.rel K G v (renum ns (.node k ts))
        rw [renum, renumL_map]
        exact node_of (by rw [List.length_map]; exact hlen) h
  intro n
  induction n with
  | zero => exact step 0 fun m h => by omega
  | succ n ih => exact step (n + 1) fun m h => by have : m = n := by omega
                                                  subst this; exact ih
theorem ok__law_numbered (T : Top K mg "_law_numbered" st__law_numbered ["tree", "numbers"]) (M : Blt mg) : ∀ n, D_renum P w K mg base "_law_numbered" n := by
  have step : ∀ n, (∀ m, n = m + 1 → D_renum P w K mg base "_law_numbered" m) → D_renum P w K mg base "_law_numbered" n := fun n ih => T.df fun f fd F => by
    refine fn_pure F sc__law_numbered (fun _ => rfl) no2 fun ⟨t, ns⟩ ⟨hd, hb⟩ cdv Aa outer sh H E B hr => ?_
    show PSl _ _ [.dat Rp.tr t, .dat Rp.int.lst ns, .un] _ _
    have hd : depth t ≤ n := hd
    have hb : inB ns.length t = true := hb
    refine ss_if2 (pb_val (pr_callB (par_cons (pr_var 0) (par_cons (pr_ty M.str) par_nil)) M.isinstance cb_isStr)) (fun c => ?_) (fun c => ?_)
    · cases t with
      | node _ _ => cases c
      | leaf s => exact ss_ret (pr_var 0) fun _ _ h => h
    · cases t with
      | leaf _ => cases c
      | node k ts =>
        refine ss_nil ?_
        cases n with
        | zero => simp only [depth] at hd; omega
        | succ n =>
        have D := ih n rfl
        refine ss_lenTr 0 fun hlen => ?_
        refine ss_conv 0 (fun _ _ h => of_node h) ?_
        have hk : ∀ t' ∈ ts, depth t' ≤ n := fun t' ht => by
          have := depth_le ht
          rw [depth] at hd; omega
        rw [inB, Bool.and_eq_true, Bool.and_eq_true] at hb
        have h1 := of_decide_eq_true hb.1.1
        have h2 := of_decide_eq_true hb.1.2
        refine ss_ret (pr_pair (pr_ix (pr_l (pr_var 1)) (pr_ix (pr_var 0) pr_int ix_P0) (ix_L (atI_gi h1 h2))) (pr_callT (par_cons (pr_l (pr_lcm [("one", 2)] (renum ns) (it_tup (pr_ix (pr_var 0) pr_int ix_P1)) (fun _ _ _ _ _ => tg_name 2 sc__law_numbered.nd)
          (fun y hy _ _ _ _ _ => pr_call D hr (y, ns) (par_cons (pr_var 2) (par_cons (pr_var 1) par_nil)) ⟨hk y hy, inBL_mem hb.2 y hy⟩) (len6 hlen) sc__law_numbered.nd)) par_nil) M.tuple cb_tuple)) fun G v h => ?_
        show Rp.tr.rel K G v (renum ns (.node k ts))
        rw [renum, renumL_map]
        exact node_of (by rw [List.length_map]; exact hlen) h
  intro n
  induction n with
  | zero => exact step 0 fun m h => by omega
  | succ n ih => exact step (n + 1) fun m h => by have : m = n := by omega
                                                  subst this; exact ih
theorem ok_depth_of (T : Top K mg "depth_of" st_depth_of ["tree"]) (M : Blt mg) : ∀ n, D_depth P w K mg base "depth_of" n := by
  have step : ∀ n, (∀ m, n = m + 1 → D_depth P w K mg base "depth_of" m) → D_depth P w K mg base "depth_of" n := fun n ih => T.df fun f fd F => by
    refine fn_pure F sc_depth_of (fun _ => rfl) no1 fun t hd cdv Aa outer sh H E B hr => ?_
    show PSl _ _ [.dat Rp.tr t, .un] _ _
    refine ss_if2 (pb_val (pr_callB (par_cons (pr_var 0) (par_cons (pr_ty M.str) par_nil)) M.isinstance cb_isStr)) (fun c => ?_) (fun c => ?_)
    · cases t with
      | node _ _ => cases c
      | leaf s => exact ss_ret pr_int fun _ _ h => h
    · cases t with
      | leaf _ => cases c
      | node k ts =>
        refine ss_nil ?_
        cases n with
        | zero => simp only [depth] at hd; omega
        | succ n =>
        have D := ih n rfl
        refine ss_lenTr 0 fun hlen => ?_
        refine ss_conv 0 (fun _ _ h => of_node h) ?_
        have hk : ∀ t' ∈ ts, depth t' ≤ n := fun t' ht => by
          have := depth_le ht
          rw [depth] at hd; omega
        refine ss_ret (A := Rp.int) (d := ((depth (.node k ts) : Nat) : Int)) (pr_eq (pr_bin pr_int (pr_callB (par_cons (pr_l (pr_bin (pr_l (pr_lst Rp.int [0] (par_cons pr_int par_nil))) (pr_l (pr_lcm [("one", 1)] (fun t => ((depth t : Nat) : Int)) (it_tup (pr_ix (pr_var 0) pr_int ix_P1)) (fun _ _ _ _ _ => tg_name 1 sc_depth_of.nd) (fun y hy _ _ _ _ _ => pr_call D hr y (par_cons (pr_var 1) par_nil) (hk y hy)) (len6 hlen) sc_depth_of.nd)) (bin_cat (by rw [List.length_map, List.length_singleton, sizeLine_eq]; show 1 + ts.length ≤ 16777216; omega)))) par_nil) M.max (cb_max rfl (depthL_mem ts) (depthL_top ts))) bin_add) (by rw [depth]; omega)) fun _ _ h => h
  intro n
  induction n with
  | zero => exact step 0 fun m h => by omega
  | succ n ih => exact step (n + 1) fun m h => by have : m = n := by omega
                                                  subst this; exact ih
theorem ok_is_tree_of (T : Top K mg "is_tree_of" st_is_tree_of ["grammar", "part", "tree"]) (M : Blt mg) (n : Nat) (D1 : D_fits P w K mg base n) (D2 : D_count P w K mg base "count_of" n) (D3 : D_depth P w K mg base "depth_of" n) : D_is_tree_of P w K mg base n := T.df fun f fd F => by
  refine fn_pure F sc_is_tree_of (fun _ => rfl) no3 fun ⟨g, part, t⟩ ⟨S, hd⟩ cdv Aa outer sh H E B hr => ?_
  show PSl _ _ [.dat rGram g, .dat Rp.str part, .dat Rp.tr t] _ _
  obtain ⟨t1, h1⟩ := M.tree200
  obtain ⟨t2, h2⟩ := M.deep40
  refine ss_ret (A := Rp.bl) (d := isTreeOf g part t) (pr_eq (pr_and (pr_call D1 hr (g, part, t) (par_cons (pr_var 0) (par_cons (pr_var 1) (par_cons (pr_var 2) par_nil))) ⟨S, hd⟩) fun _ => pr_and (pr_cmp (pr_call D2 hr t (par_cons (pr_var 2) par_nil) hd) (pr_globI h1) cmp_le) fun _ => pr_one (pr_cmp (pr_call D3 hr t (par_cons (pr_var 2) par_nil) hd) (pr_globI h2) cmp_le)) ?_) fun _ _ h => h
  unfold isTreeOf isSmall
  have : decide (((depth t : Nat) : Int) ≤ 40) = decide (depth t ≤ 40) := by
    rw [Bool.eq_iff_iff, decide_eq_true_eq, decide_eq_true_eq]; omega
  rw [this]
theorem ok_is_tree (T : Top K mg "is_tree" st_is_tree ["grammar", "tree"]) (n : Nat) (D1 : D_must_be_grammar P w K mg base) (D2 : D_is_tree_of P w K mg base n) : D_is_tree P w K mg base n := T.df fun f fd F => by
  refine fn_pure F sc_is_tree (fun _ => rfl) no2 fun ⟨g, t⟩ ⟨W, hd⟩ cdv Aa outer sh H E B hr => ?_
  show PSl _ _ [.dat rGram g, .dat Rp.tr t] _ _
  have W : WF g := W
  have hl := W.pos
  refine ss_expr (pr_call D1 (hr.mono (by omega)) g (par_cons (pr_var 0) par_nil) W) ?_
  exact ss_ret (pr_call D2 (hr.mono (by omega)) (g, (gi g 0).1, t) (par_cons (pr_var 0) (par_cons (pr_ix (pr_ix (pr_l (pr_var 0)) pr_int (ix_L (atI_gi (by decide) (by omega)))) pr_int ix_P0) (par_cons (pr_var 1) par_nil))) ⟨W.sm, hd⟩) fun _ _ h => h
end
end Rw

/-! RwV: reached_from; rulewright/dropping.py -/
namespace Rw
open PySem PyProof.Rows L2
/-! the classes of the refusals -/
structure ExK (K : PySem.W.Frag) (mg : Str → Option Value) (x : Str) (C : Addr) : Prop where
  g : mg x = some (.ref C)
  xP : PySem.W.excIn K C [.type "ValueError", .type "Exception", .type "BaseException", .type "object"] "ValueError.__new__" = true
  kP : PySem.W.keepIn K (.ref C) = true
  bP : PySem.W.subIn K (.ref C) (.type "BaseException") = some true
  tP : PySem.W.typeIn K (.ref C) = some (.type "type")
structure ExA (K : PySem.W.Frag) (mg : Str → Option Value) (cls : Kd → Addr) : Prop where
  noTurn : ExK K mg "NoTurn" (cls .noTurn)
  tooMany : ExK K mg "TooMany" (cls .tooMany)
  noTree : ExK K mg "NoTree" (cls .noTree)
theorem raise_own {X : Cx} {B : Bs} {es : List Sl} {sts : List Stmt} {O : Out} {W : WX} {C : Addr} {x m : Str} {j : Nat} {p p2 pos pos2 : Pos} (e : ExK X.K X.mg x C) (tk : L2N.Takes X W) (h : ∀ σ H, Same B.H H → W (.ref C) none σ H) (hc : X.calm = true := by rfl) (hg : Gl X x := by rfl)
    (hdb : (x == ("__debug__" : Str)) = false := by decide) : PSl X B es (.Raise (some (.Call (.Name x p) [.Constant (.str m) j p2] [] pos)) none pos2 :: sts) O :=
  ss_raise hc tk (L2N.pmk_own PySem.F.excBase_ValueError e.xP e.g e.kP (raises_own e.bP e.tP) hg hdb) h

/-! reached_from: the mathematics -/
def allParts (rules : Gram) (name : Str) : List Str := name :: rules.flatMap (·.2)
structure RSt (rules : Gram) (name : Str) (ks todo : List Str) (here : Option Str) (m : Nat) : Prop where
  nd : ks.Nodup
  sub : ∀ k ∈ ks, k ∈ allParts rules name
  tsub : ∀ t ∈ todo, t ∈ ks
  reach : ∀ k ∈ ks, Reach rules name k
  nm : name ∈ ks
  hk : ∀ h, here = some h → h ∈ ks
  cl : ∀ k ∈ ks, k ∉ todo → here ≠ some k → ∀ r ∈ rules, r.1 = k → ∀ p ∈ r.2, isLetter p = false → p ∈ ks
  ms : 2 * ((allParts rules name).length - ks.length) + todo.length ≤ m
section
variable {rules : Gram} {name : Str} {ks todo : List Str} {here : Option Str} {m : Nat} {p : Str}
theorem RSt.lenK (h : RSt rules name ks todo here m) : ks.length ≤ (allParts rules name).length := nodup_le h.nd h.sub
theorem RSt.init : RSt rules name [name] [name] none (2 * (allParts rules name).length) := by
  refine ⟨by simp, fun k hk => ?_, fun t h => h, fun k hk => ?_, by simp, fun h e => (by cases e), fun k hk hn => ?_, ?_⟩
  · simp at hk; subst hk; simp [allParts]
  · simp at hk; subst hk; exact .self
  · exact absurd hk hn
  · have : 1 ≤ (allParts rules name).length := by simp [allParts]
    simp; omega
theorem RSt.pop {t : Str} (h : RSt rules name ks (todo ++ [t]) none m) : m ≠ 0 ∧ RSt rules name ks todo (some t) (m - 1) := by
  have ms := h.ms
  rw [List.length_append, List.length_singleton] at ms
  refine ⟨by omega, h.nd, h.sub, fun u hu => h.tsub u (by simp [hu]), h.reach, h.nm, fun u e => by cases e; exact h.tsub t (by simp), fun k hk hn hne r hr he => ?_, by omega⟩
  refine h.cl k hk (fun hm => ?_) (by simp) r hr he
  rcases List.mem_append.mp hm with q | q
  · exact hn q
  · simp at q; subst q; exact hne rfl
theorem RSt.add {t : Str} {ps : List Str} (h : RSt rules name ks todo (some t) m) (hr : (t, ps) ∈ rules) (hp : p ∈ ps) (hl : isLetter p = false) (hn : p ∉ ks) : RSt rules name (ks ++ [p]) (todo ++ [p]) (some t) m := by
  have nd : (ks ++ [p]).Nodup := by
    rw [List.nodup_append]
    exact ⟨h.nd, by simp, fun a ha b hb => by simp at hb; subst hb; exact fun e => hn (e ▸ ha)⟩
  have sub : ∀ k ∈ ks ++ [p], k ∈ allParts rules name := fun k hk => by
    rcases List.mem_append.mp hk with q | q
    · exact h.sub k q
    · simp at q; subst q; exact List.mem_cons_of_mem _ (List.mem_flatMap.mpr ⟨_, hr, hp⟩)
  refine ⟨nd, sub, fun u hu => ?_, fun k hk => ?_, by simp [h.nm], fun u e => by simp [h.hk u e], fun k hk hn2 hne r hr2 he q hq hql => ?_, ?_⟩
  · rcases List.mem_append.mp hu with q | q
    · simp [h.tsub u q]
    · simp at q; subst q; simp
  · rcases List.mem_append.mp hk with q | q
    · exact h.reach k q
    · simp at q; subst q; exact .step (h.reach t (h.hk t rfl)) hr hp hl
  · rcases List.mem_append.mp hk with z | z
    · exact List.mem_append_left _ (h.cl k z (fun hm => hn2 (by simp [hm])) hne r hr2 he q hq hql)
    · simp at z; subst z; exact absurd (by simp) hn2
  · have := nodup_le nd sub
    have ms := h.ms
    rw [List.length_append, List.length_singleton] at this ⊢
    rw [List.length_append, List.length_singleton]
    omega
theorem RSt.closeUp {t : Str} (h : RSt rules name ks todo (some t) m) (hc : ∀ r ∈ rules, r.1 = t → ∀ p ∈ r.2, isLetter p = false → p ∈ ks) : RSt rules name ks todo none m :=
  ⟨h.nd, h.sub, h.tsub, h.reach, h.nm, fun u e => (by cases e), fun k hk hn _ r hr he p hp hl => (by
    by_cases e : k = t
    · subst e; exact hc r hr he p hp hl
    · exact h.cl k hk hn (fun z => e (Option.some.inj z).symm) r hr he p hp hl), h.ms⟩
theorem RSt.end (h : RSt rules name ks [] none m) (k : Str) : k ∈ ks ↔ Reach rules name k := by
  constructor
  · exact h.reach k
  · intro r
    induction r with
    | self => exact h.nm
    | step _ hr hp hl ih => exact h.cl _ ih (by simp) (by simp) _ hr rfl _ hp hl
end
section
variable (P : Program) (w : World) (K : PySem.W.Frag) (mg : Str → Option Value) (base : Heap) (cls : Kd → Addr)
abbrev D_reached_from := Df P w K mg base CX0 "reached_from" ["rules", "name"] 2 (spR K (ι := Gram × Str) (fun i => [.dat rGram i.1, .dat Rp.str i.2]) (fun i => Sm i.1) Rp.bl.dct (fun i b => ∀ n, dhas b n = true ↔ Reach i.1 i.2 n))
abbrev D_first_ahead := ∀ (α : Type) (A : Rp α), Df P w K mg base CX0 "first_ahead" ["first", "entries"] 1 (spI K (ι := Str × List (Str × α)) (fun i => [.dat Rp.str i.1, .dat (Rp.str.pair A).lst i.2]) (fun i => i.2.length ≤ 50000) (Rp.str.pair A).lst (fun i => firstAhead i.1 i.2))
abbrev D_all_make := Df P w K mg base CX0 "all_make" ["grammar"] 3 (spI K (ι := Gram) (fun g => [.dat rGram g]) Sm Rp.bl allMake)
abbrev D_must_be_turned_tree (n : Nat) := Df P w K mg base (L2N.CX P w) "must_be_turned_tree" ["turned", "tree"] (n + 6) (spE K cls (ι := Gram × Tr) (fun i => [.dat rGram i.1, .dat Rp.tr i.2]) (fun i => WF i.1 ∧ depth i.2 ≤ n) Rp.non (fun i => if isTree i.1 i.2 then .ok () else .error Kd.noTree))
abbrev D_within (n : Nat) := Df P w K mg base (L2N.CX P w) "within" ["tree"] (n + 2) (spE K cls (ι := Tr) (fun t => [.dat Rp.tr t]) (fun t => depth t ≤ n) Rp.tr within)
abbrev D_kept_numbers := Df P w K mg base CX0 "kept_numbers" ["grammar"] 3 (spI K (ι := Gram) (fun g => [.dat rGram g]) (fun g => Sm g ∧ 1 ≤ g.length) Rp.int.lst keptNumbers)
abbrev D_dropped := Df P w K mg base (L2N.CX P w) "dropped" ["grammar"] 5 (spE K cls (ι := Gram) (fun g => [.dat rGram g]) WF (rGram.pair Rp.int.lst) dropped)
end
section
variable {P : Program} {w : World} {K : PySem.W.Frag} {mg : Str → Option Value} {base : Heap} {cls : Kd → Addr}
theorem ok_reached_from (T : Top K mg "reached_from" st_reached_from ["rules", "name"]) (D1 : D_is_letter P w K mg base) : D_reached_from P w K mg base := T.df fun f fd F => by
  refine fn_rel F sc_reached_from (fun _ => rfl) no2 fun ⟨g, nm⟩ S cdv Aa outer sh H E B hr => ?_
  have S : Sm g := S
  show PSl _ _ [.dat rGram g, .dat Rp.str nm, .un, .un, .un, .un, .un, .un] _ _
  have hl := S.len
  have hN : (allParts g nm).length ≤ 1 + 100 * 100 := by
    have : ∀ l : Gram, (∀ r ∈ l, r.2.length ≤ 100) → (l.flatMap (·.2)).length ≤ l.length * 100 := by
      intro l
      induction l with
      | nil => intro _; simp
      | cons r l ih =>
        intro h
        have h1 := h r (by simp)
        have h2 := ih fun r hr => h r (by simp [hr])
        rw [List.flatMap_cons, List.length_append, List.length_cons]; omega
    have := this g S.parts
    unfold allParts
    rw [List.length_cons]; omega
  refine ss_ownD 2 Rp.bl ?_ sc_reached_from.nd
  refine ss_dput 2 pr_bl (pr_var 1) ?_ (hu1 hr) ?_
  rotate_left
  · exact smallL (Nat.zero_le _)
  refine ss_ownL 3 Rp.str [nm] (par_cons (pr_var 1) par_nil) ?_ sc_reached_from.nd (small (by simp))
  refine ss_while (n0 := 2 * (allParts g nm).length) (fun n es => ∃ ks todo a b c d, RSt g nm ks todo none n ∧ n ≤ 2 * (allParts g nm).length ∧ es = [.dat rGram g, .dat Rp.str nm, .own (.dct Rp.bl (ks.map fun k => (k, true))), .own (.lst Rp.str todo), a, b, c, d]) ⟨[nm], [nm], .un, .un, .un, .un, RSt.init, Nat.le_refl _, rfl⟩ ?_ PassesOwn.never
  rintro B' n _ ⟨ks, todo, a, b, c, d, R0, hn2, rfl⟩
  refine ⟨!todo.isEmpty, pb_ownL 3, fun hf => ?_, fun hf => ?_⟩
  · obtain ⟨todo', t, rfl⟩ : ∃ l t, todo = l ++ [t] := by
      cases todo with
      | nil => cases hf
      | cons x l => exact ⟨(x :: l).dropLast, (x :: l).getLast (by simp), by rw [List.dropLast_concat_getLast]⟩
    obtain ⟨hn, R1⟩ := R0.pop
    refine ss_pop 4 3 ?_ sc_reached_from.nd
    refine ss_for (fun i es => ∃ ks todo b c d, RSt g nm ks todo (some t) (n - 1) ∧ (∀ r ∈ g.take i, r.1 = t → ∀ p ∈ r.2, isLetter p = false → p ∈ ks) ∧ es = [.dat rGram g, .dat Rp.str nm, .own (.dct Rp.bl (ks.map fun k => (k, true))), .own (.lst Rp.str todo), .dat Rp.str t, b, c, d])
      (it_list (pr_var 0)) (tg_pair 5 6 rfl sc_reached_from.nd) ⟨ks, todo', b, c, d, R1, by simp, rfl⟩ ?_ ?_ PassesOwn.never rfl
    · rintro B' i r _ hi ⟨ks, todo, b, c, d, R, hc, rfl⟩
      show PSl _ _ [.dat rGram g, .dat Rp.str nm, .own (.dct Rp.bl (ks.map fun k => (k, true))), .own (.lst Rp.str todo), .dat Rp.str t, .dat Rp.str r.1, .dat Rp.str.tup r.2, d] _ _
      have hm : r ∈ g := List.mem_of_getElem? hi
      refine ss_if2 (pb_cmp (pr_var 5) (pr_var 4) cmp_eqS) (fun h => ?_) (fun h => ?_)
      · have ht : r.1 = t := of_decide_eq_true h
        refine ss_for (fun j es => ∃ ks todo d, RSt g nm ks todo (some t) (n - 1) ∧ (∀ r ∈ g.take i, r.1 = t → ∀ p ∈ r.2, isLetter p = false → p ∈ ks) ∧ (∀ p ∈ r.2.take j, isLetter p = false → p ∈ ks) ∧ es = [.dat rGram g, .dat Rp.str nm, .own (.dct Rp.bl (ks.map fun k => (k, true))), .own (.lst Rp.str todo), .dat Rp.str t, .dat Rp.str r.1, .dat Rp.str.tup r.2, d])
          (it_tup (pr_var 6)) (tg_name 7 sc_reached_from.nd) ⟨ks, todo, d, R, hc, by simp, rfl⟩ ?_ ?_ PassesOwn.never rfl
        · rintro B' j p _ hj ⟨ks, todo, d, R, hc, hp, rfl⟩
          show PSl _ _ [.dat rGram g, .dat Rp.str nm, .own (.dct Rp.bl (ks.map fun k => (k, true))), .own (.lst Rp.str todo), .dat Rp.str t, .dat Rp.str r.1, .dat Rp.str.tup r.2, .dat Rp.str p] _ _
          have hpm : p ∈ r.2 := List.mem_of_getElem? hj
          have hK := R.lenK
          refine ss_if2 (k := !isLetter p && !decide (p ∈ ks)) (pb_w (pbw_and (pb_not (pb_val (pr_call D1 hr p (par_cons (pr_var 7) par_nil) trivial))) fun _ => pbw_and1 (pb_eq (pb_dni (hu1 hr) (pr_var 7) (pr_ownD 2)) (by rw [dhas_mk])))) (fun h => ?_) (fun h => ?_)
          · simp only [Bool.and_eq_true, Bool.not_eq_true', decide_eq_false_iff_not] at h
            refine ss_dput 2 pr_bl (pr_var 7) ?_ (hu1 hr) ?_
            · refine ss_append 3 (pr_var 7) ?_ ?_
              · refine ss_nil (ss_nil ⟨ks ++ [p], todo ++ [p], .dat Rp.str p, R.add (ps := r.2) (by rw [← ht]; exact hm) hpm h.1 h.2, fun r hr he q hq hl => List.mem_append_left _ (hc r hr he q hq hl), ?_, ?_⟩)
                · intro q hq hl
                  rw [take_succ hj] at hq
                  rcases List.mem_append.mp hq with z | z
                  · exact List.mem_append_left _ (hp q z hl)
                  · simp at z; subst z; simp
                · rw [dput_mk _ _ h.2]; rfl
              · have := R.ms
                exact smallL (by omega)
            · exact smallL (by rw [List.length_map]; omega)
          · refine ss_nil (ss_nil ⟨ks, todo, .dat Rp.str p, R, hc, ?_, rfl⟩)
            intro q hq hl
            rw [take_succ hj] at hq
            rcases List.mem_append.mp hq with z | z
            · exact hp q z hl
            · simp at z; subst z
              rw [hl] at h
              simpa using h
        · rintro _ ⟨ks, todo, d, R, hc, hp, rfl⟩
          rw [List.take_length] at hp
          refine ss_nil (ss_nil ⟨ks, todo, .dat Rp.str r.1, .dat Rp.str.tup r.2, d, R, ?_, rfl⟩)
          intro r' hr' he q hq hl
          rw [take_succ hi] at hr'
          rcases List.mem_append.mp hr' with z | z
          · exact hc r' z he q hq hl
          · simp at z; subst z; exact hp q hq hl
      · have ht : ¬ r.1 = t := of_decide_eq_false h
        refine ss_nil (ss_nil ⟨ks, todo, .dat Rp.str r.1, .dat Rp.str.tup r.2, d, R, ?_, rfl⟩)
        intro r' hr' he q hq hl
        rw [take_succ hi] at hr'
        rcases List.mem_append.mp hr' with z | z
        · exact hc r' z he q hq hl
        · simp at z; subst z; exact absurd he ht
    · rintro _ ⟨ks, todo, b, c, d, R, hc, rfl⟩
      rw [List.take_length] at hc
      exact ss_nil ⟨n - 1, by omega, ks, todo, .dat Rp.str t, b, c, d, R.closeUp hc, by omega, rfl⟩
  · have ht : todo = [] := by cases todo with
      | nil => rfl
      | cons x l => cases hf
    subst ht
    refine ss_frzD 2 ?_
    exact ss_ret (pr_var 2) fun G v h => ⟨_, fun n => by rw [dhas_mk, decide_eq_true_eq]; exact R0.end n, h⟩
theorem ok_first_ahead (T : Top K mg "first_ahead" st_first_ahead ["first", "entries"]) : D_first_ahead P w K mg base := fun α A => T.df fun f fd F => by
  refine fn_pure F sc_first_ahead (fun _ => rfl) no2 fun ⟨first, l⟩ hl cdv Aa outer sh H E B hr => ?_
  have hl : l.length ≤ 50000 := hl
  show PSl _ _ [.dat Rp.str first, .dat (Rp.str.pair A).lst l, .un] _ _
  refine ss_ret (pr_bin (pr_l (pr_lc [("one", 2)] (c := fun (e : Str × α) => decide (e.1 = first)) (f := fun e => e) (it_list (pr_var 1)) (fun _ _ _ _ _ => tg_name 2 sc_first_ahead.nd) (fun y hy _ _ _ _ _ => pts_1 (pb_cmp (pr_ix (pr_var 2) pr_int ix_P0) (pr_var 0) cmp_eqS)) (fun y hy _ _ _ _ _ _ => pr_var 2) (small (by omega)) sc_first_ahead.nd))
    (pr_l (pr_lc [("one", 2)] (c := fun (e : Str × α) => !decide (e.1 = first)) (f := fun e => e) (it_list (pr_var 1)) (fun _ _ _ _ _ => tg_name 2 sc_first_ahead.nd) (fun y hy _ _ _ _ _ => pts_1 (pb_cmp (pr_ix (pr_var 2) pr_int ix_P0) (pr_var 0) cmp_neS)) (fun y hy _ _ _ _ _ _ => pr_var 2) (small (by omega)) sc_first_ahead.nd)) (bin_cat ?_)) fun G v h => ?_
  · have h1 := List.length_filter_le (fun (e : Str × α) => decide (e.1 = first)) l
    have h2 := List.length_filter_le (fun (e : Str × α) => !decide (e.1 = first)) l
    rw [List.length_map, List.length_map]
    exact small (by omega)
  · rw [List.map_id', List.map_id'] at h
    exact h
theorem ok_all_make (T : Top K mg "all_make" st_all_make ["grammar"]) (M : Blt mg) (D1 : D_makes_by P w K mg base) : D_all_make P w K mg base := T.df fun f fd F => by
  refine fn_pure F sc_all_make (fun _ => rfl) no1 fun g S cdv Aa outer sh H E B hr => ?_
  have hl := S.len
  show PSl _ _ [.dat rGram g, .un, .un] _ _
  refine ss_set 1 (pr_call D1 hr g (par_cons (pr_var 0) par_nil) S) ?_ sc_all_make.nd
  exact ss_ret (A := Rp.bl) (d := allMake g) (pr_eq (pr_callB (par_cons (pr_l (pr_lcm [("rule", 2)] (fun (r : Rule) => decide (r.1 ∈ makesBy g)) (it_list (pr_var 0)) (fun _ _ _ _ _ => tg_name 2 sc_all_make.nd)
    (fun y hy _ _ _ _ _ => pr_cmp (pr_ix (pr_var 2) pr_int ix_P0) (pr_l (pr_var 1)) cmp_inL) (small (by omega)) sc_all_make.nd)) par_nil) M.all (cb_all rfl)) (by rw [List.all_map]; rfl)) fun _ _ h => h
theorem ok_must_be_turned_tree (T : Top K mg "must_be_turned_tree" st_must_be_turned_tree ["turned", "tree"]) (X0 : ExA K mg cls) (n : Nat) (D1 : D_is_tree P w K mg base n) : D_must_be_turned_tree P w K mg base cls n := T.df fun f fd F => by
  refine fn_exc F sc_must_be_turned_tree (fun _ => rfl) no2 fun ⟨g, t⟩ ⟨W, hd⟩ cdv Aa outer sh H E B hr hE => ?_
  show PSl _ _ [.dat rGram g, .dat Rp.tr t] _ _
  refine ss_if2 (pb_not (pb_val (pr_call D1 hr (g, t) (par_cons (pr_var 0) (par_cons (pr_var 1) par_nil)) ⟨W, hd⟩))) (fun h => ?_) (fun h => ?_)
  · have h : isTree g t = false := by simpa using h
    exact raise_own X0.noTree (L2N.takes_of rfl rfl rfl rfl) fun σ H' s => hE Kd.noTree (by show (if isTree g t = true then _ else _) = _; rw [h]; rfl) H' s
  · have h : isTree g t = true := by simpa using h
    exact ss_nil (ss_nil ⟨(), by show (if isTree g t = true then _ else _) = _; rw [h]; rfl, fun _ => rfl⟩)
theorem ok_within (T : Top K mg "within" st_within ["tree"]) (M : Blt mg) (X0 : ExA K mg cls) (n : Nat) (D2 : D_count P w K mg base "count_of" n) (D3 : D_depth P w K mg base "depth_of" n) : D_within P w K mg base cls n := T.df fun f fd F => by
  refine fn_exc F sc_within (fun _ => rfl) no1 fun t hd cdv Aa outer sh H E B hr hE => ?_
  show PSl _ _ [.dat Rp.tr t] _ _
  obtain ⟨t1, h1⟩ := M.tree200
  obtain ⟨t2, h2⟩ := M.deep40
  have e1 : decide ((200 : Int) < count t) = !decide (count t ≤ 200) := by rw [Bool.eq_iff_iff]; simp
  have e2 : decide ((40 : Int) < ((depth t : Nat) : Int)) = !decide (depth t ≤ 40) := by rw [Bool.eq_iff_iff]; simp; omega
  refine ss_if2 (k := !isSmall t) (pb_eq (pb_w (pbw_or (pb_cmp (pr_call D2 hr t (par_cons (pr_var 0) par_nil) hd) (pr_globI h1) cmp_gt) fun _ => pbw_or1 (pb_cmp (pr_call D3 hr t (par_cons (pr_var 0) par_nil) hd) (pr_globI h2) cmp_gt))) (by unfold isSmall; rw [e1, e2, Bool.not_and])) (fun h => ?_) (fun h => ?_)
  · have h : isSmall t = false := by simpa using h
    exact raise_own X0.tooMany (L2N.takes_of rfl rfl rfl rfl) fun σ H' s => hE Kd.tooMany (by unfold within; rw [h]; rfl) H' s
  · have h : isSmall t = true := by simpa using h
    exact ss_nil (ss_ret (pr_var 0) fun G v r => ⟨t, by unfold within; rw [h]; rfl, r⟩)
theorem enumI_mem {α : Type} {l : List α} {p : Int × α} (h : p ∈ enumI l) : 0 ≤ p.1 ∧ p.1 < l.length ∧ ∃ k : Nat, p.1 = k ∧ l[k]? = some p.2 := by
  obtain ⟨k, hk, e⟩ := List.mem_iff_getElem.mp h
  have hl : k < l.length := by rw [enumI_len] at hk; exact hk
  have := enumI_get (List.getElem?_eq_getElem hl)
  rw [List.getElem?_eq_getElem hk, e] at this
  cases this
  exact ⟨by show 0 ≤ (k : Int); omega, by show (k : Int) < _; omega, k, rfl, List.getElem?_eq_getElem hl⟩
theorem useful_mem {g : Gram} {i : Int} (h : i ∈ useful g) : 0 ≤ i ∧ i < g.length := by
  obtain ⟨p, hp, rfl⟩ := List.mem_map.mp h
  have := enumI_mem (List.mem_filter.mp hp).1
  exact ⟨this.1, this.2.1⟩
theorem useful_len (g : Gram) : (useful g).length ≤ g.length := by
  unfold useful
  rw [List.length_map]
  refine Nat.le_trans (List.length_filter_le _ _) ?_
  rw [enumI_len]; exact Nat.le_refl _
theorem gi_mem {α : Type} [Inhabited α] {l : List α} {i : Int} (h0 : 0 ≤ i) (h1 : i < l.length) : gi l i ∈ l := by
  have := atI_gi (xs := l) h0 h1
  unfold atI at this
  obtain ⟨j, _, hj⟩ := Option.bind_eq_some_iff.mp this
  exact List.mem_of_getElem? hj
theorem ok_kept_numbers (T : Top K mg "kept_numbers" st_kept_numbers ["grammar"]) (M : Blt mg) (D1 : D_is_letter P w K mg base) (D2 : D_makes_by P w K mg base) (D3 : D_reached_from P w K mg base) : D_kept_numbers P w K mg base := T.df fun f fd F => by
  refine fn_pure F sc_kept_numbers (fun _ => rfl) no1 fun g ⟨S, h1⟩ cdv Aa outer sh H E B hr => ?_
  have hl := S.len
  show PSl _ _ [.dat rGram g, .un, .un, .un, .un, .un, .un] _ _
  refine ss_set 1 (pr_call D2 hr g (par_cons (pr_var 0) par_nil) S) ?_ sc_kept_numbers.nd
  refine ss_own0 2 Rp.int ?_ sc_kept_numbers.nd
  refine ss_for (fun i es => ∃ a b, es = [.dat rGram g, .dat Rp.str.lst (makesBy g), .own (.lst Rp.int ((((enumI g).take i).filter fun p => p.2.2.all fun q => isLetter q || decide (q ∈ makesBy g)).map (·.1))), a, b, .un, .un])
    (it_enum (pr_var 0) M.enumerate) (tg_pair 3 4 rfl sc_kept_numbers.nd) ⟨.un, .un, rfl⟩ ?_ ?_ PassesOwn.never rfl
  · rintro B' i ⟨n, r⟩ _ hi ⟨a, b, rfl⟩
    show PSl _ _ [.dat rGram g, .dat Rp.str.lst (makesBy g), .own (.lst Rp.int ((((enumI g).take i).filter fun p => p.2.2.all fun q => isLetter q || decide (q ∈ makesBy g)).map (·.1))), .dat Rp.int n, .dat rRule r, .un, .un] _ _
    have hp := S.parts r (by
      obtain ⟨_, _, k, _, hk⟩ := enumI_mem (List.mem_of_getElem? hi)
      exact List.mem_of_getElem? hk)
    have hf := take_filter (c := fun (p : Int × Rule) => p.2.2.all fun q => isLetter q || decide (q ∈ makesBy g)) hi
    refine ss_if2 (pb_val (pr_eq (pr_callB (par_cons (pr_l (pr_lcm [("part", 6)] (fun p => isLetter p || decide (p ∈ makesBy g)) (it_tup (pr_ix (pr_var 4) pr_int ix_P1)) (fun _ _ _ _ _ => tg_name 6 sc_kept_numbers.nd)
      (fun y hy _ _ _ _ _ => pr_or (pr_call D1 (hr.mono (by decide)) y (par_cons (pr_var 6) par_nil) trivial) fun _ => pr_one (pr_cmp (pr_var 6) (pr_l (pr_var 1)) cmp_inL)) (small (by omega)) sc_kept_numbers.nd)) par_nil) M.all (cb_all rfl)) (show _ = r.2.all fun q => isLetter q || decide (q ∈ makesBy g) by rw [List.all_map]; rfl))) (fun h => ?_) (fun h => ?_)
    · refine ss_append 2 (pr_var 3) ?_ ?_
      · refine ss_nil (ss_nil ⟨.dat Rp.int n, .dat rRule r, ?_⟩)
        rw [hf, if_pos h, List.map_append]; rfl
      · rw [List.length_map]
        refine smallL (Nat.le_trans (List.length_filter_le _ _) ?_)
        rw [List.length_take, enumI_len]; omega
    · refine ss_nil (ss_nil ⟨.dat Rp.int n, .dat rRule r, ?_⟩)
      rw [hf, if_neg (by rw [h]; exact Bool.false_ne_true), List.append_nil]
  · rintro _ ⟨a, b, rfl⟩
    rw [List.take_length]
    refine ss_frzL 2 ?_
    show PSl _ _ [.dat rGram g, .dat Rp.str.lst (makesBy g), .dat Rp.int.lst (useful g), a, b, .un, .un] _ _
    have hul := useful_len g
    refine ss_setE 5 (pr_callR D3 hr ((useful g).map (gi g), (gi g 0).1) (par_cons (pr_lcm [("number", 3)] (gi g) (it_list (pr_var 2)) (fun _ _ _ _ _ => tg_name 3 sc_kept_numbers.nd) (fun y hy _ _ _ _ _ => pr_ix (pr_l (pr_var 0)) (pr_var 3) (ix_L (atI_gi (useful_mem hy).1 (useful_mem hy).2))) (small (by omega)) sc_kept_numbers.nd)
      (par_cons (pr_ix (pr_ix (pr_l (pr_var 0)) pr_int (ix_L (atI_gi (by decide) (by omega)))) pr_int ix_P0) par_nil)) ⟨by rw [List.length_map]; omega, fun r hr => by
        obtain ⟨i, hi, rfl⟩ := List.mem_map.mp hr
        exact S.parts _ (gi_mem (useful_mem hi).1 (useful_mem hi).2)⟩) (fun d hd => ?_) sc_kept_numbers.nd
    refine ss_ret (pr_lc [("number", 3)] (c := fun i => dhas d (gi g i).1) (f := fun i => i) (it_list (pr_var 2)) (fun _ _ _ _ _ => tg_name 3 sc_kept_numbers.nd) (fun y hy _ _ _ _ _ => pts_1 (pb_din (hu1 hr) (pr_ix (pr_ix (pr_l (pr_var 0)) (pr_var 3) (ix_L (atI_gi (useful_mem hy).1 (useful_mem hy).2))) pr_int ix_P0) (pr_d (pr_var 5)))) (fun y hy _ _ _ _ _ _ => pr_var 3) (small (by omega)) sc_kept_numbers.nd) fun G v h => ?_
    rw [List.map_id'] at h
    have e : (useful g).filter (fun i => dhas d (gi g i).1) = keptNumbers g := by
      classical
      unfold keptNumbers
      congr 1
      funext i
      rw [Bool.eq_iff_iff, decide_eq_true_eq]
      exact hd _
    rw [e] at h
    exact h
theorem kept_mem {g : Gram} {i : Int} (h : i ∈ keptNumbers g) : 0 ≤ i ∧ i < g.length := useful_mem (List.mem_filter.mp h).1
theorem kept_len (g : Gram) : (keptNumbers g).length ≤ g.length := Nat.le_trans (List.length_filter_le _ _) (useful_len g)
theorem firstAhead_mem {α : Type} {first : Str} {l : List (Str × α)} {x : Str × α} : x ∈ firstAhead first l ↔ x ∈ l := by
  unfold firstAhead
  rw [List.mem_append, List.mem_filter, List.mem_filter]
  by_cases c : x.1 = first <;> simp [c]
theorem firstAhead_len {α : Type} {first : Str} {l : List (Str × α)} : (firstAhead first l).length = l.length := by
  unfold firstAhead
  induction l with
  | nil => rfl
  | cons x l ih =>
    rw [List.length_append] at ih
    by_cases c : x.1 = first
    · simp only [c, List.filter_cons, decide_true, if_true, Bool.not_true, Bool.false_eq_true, if_false, List.length_append, List.length_cons]; omega
    · simp only [c, List.filter_cons, decide_false, if_true, Bool.not_false, Bool.false_eq_true, if_false, List.length_append, List.length_cons]; omega
theorem dropBook_mem {g : Gram} {i : Int} : i ∈ dropBook g ↔ i ∈ keptNumbers g := by
  unfold dropBook
  rw [List.mem_map]
  constructor
  · rintro ⟨x, hx, rfl⟩
    obtain ⟨j, hj, rfl⟩ := List.mem_map.mp (firstAhead_mem.mp hx)
    exact hj
  · intro h
    exact ⟨((gi g i).1, i), firstAhead_mem.mpr (List.mem_map.mpr ⟨i, h, rfl⟩), rfl⟩
theorem ok_dropped (T : Top K mg "dropped" st_dropped ["grammar"]) (X0 : ExA K mg cls) (D1 : D_must_be_grammar P w K mg base) (D2 : D_makes_by P w K mg base) (D3 : D_kept_numbers P w K mg base) (D4 : D_first_ahead P w K mg base) : D_dropped P w K mg base cls := T.df fun f fd F => by
  refine fn_exc F sc_dropped (fun _ => rfl) no1 fun g W cdv Aa outer sh H E B hr hE => ?_
  have S := W.sm
  have hl := W.le
  have h1 := W.pos
  have hk := kept_len g
  show PSl _ _ [.dat rGram g, .un, .un, .un, .un] _ _
  refine ss_expr (pr_call D1 hr g (par_cons (pr_var 0) par_nil) W) ?_
  refine ss_set 1 (pr_ix (pr_ix (pr_l (pr_var 0)) pr_int (ix_L (atI_gi (by decide) (by omega)))) pr_int ix_P0) ?_ sc_dropped.nd
  refine ss_if2 (pb_cmp (pr_var 1) (pr_l (pr_call D2 (hr.mono (by decide)) g (par_cons (pr_var 0) par_nil) S)) cmp_niL) (fun h => ?_) (fun h => ?_)
  · have h : decide ((gi g 0).1 ∈ makesBy g) = false := by simpa using h
    exact raise_own X0.noTurn (L2N.takes_of rfl rfl rfl rfl) fun σ H' s => hE Kd.noTurn (by unfold dropped; rw [h]; rfl) H' s
  · have h : decide ((gi g 0).1 ∈ makesBy g) = true := by simpa using h
    have hd : dropped g = .ok ((dropBook g).map (gi g), dropBook g) := by unfold dropped; rw [h]; rfl
    refine ss_nil ?_
    refine ss_setLcm 2 [("one", 3)] (fun (e : Str × Int) => e.2) (it_list (pr_call (D4 Int Rp.int) (hr.mono (by decide)) ((gi g 0).1, (keptNumbers g).map fun i => ((gi g i).1, i)) (par_cons (pr_var 1) (par_cons (pr_lcm [("number", 4)] (fun i => ((gi g i).1, i)) (it_list (pr_call D3 (hr.mono (by decide)) g (par_cons (pr_var 0) par_nil) ⟨S, h1⟩)) (fun _ _ _ _ _ => tg_name 4 sc_dropped.nd)
      (fun y hy _ _ _ _ _ => pr_pair (pr_ix (pr_ix (pr_l (pr_var 0)) (pr_var 4) (ix_L (atI_gi (kept_mem hy).1 (kept_mem hy).2))) pr_int ix_P0) (pr_var 4)) (small (by omega)) sc_dropped.nd) par_nil)) (by show ((keptNumbers g).map _).length ≤ 50000; rw [List.length_map]; omega))) (fun _ _ _ _ _ => tg_name 3 sc_dropped.nd) (fun y hy _ _ _ _ _ => pr_ix (pr_var 3) pr_int ix_P1) (small (by rw [firstAhead_len, List.length_map]; omega)) sc_dropped.nd ?_
    show PSl _ _ [.dat rGram g, .dat Rp.str (gi g 0).1, .dat Rp.int.lst (dropBook g), .un, .un] _ _
    have hb : (dropBook g).length ≤ 40 := by unfold dropBook; rw [List.length_map, firstAhead_len, List.length_map]; omega
    exact ss_ret (pr_pair (pr_lcm [("number", 4)] (gi g) (it_list (pr_var 2)) (fun _ _ _ _ _ => tg_name 4 sc_dropped.nd) (fun y hy _ _ _ _ _ => pr_ix (pr_l (pr_var 0)) (pr_var 4) (ix_L (atI_gi (kept_mem (dropBook_mem.mp hy)).1 (kept_mem (dropBook_mem.mp hy)).2))) (small (by omega)) sc_dropped.nd) (pr_var 2)) fun G v r => ⟨_, hd, r⟩
end
end Rw

/-! RwQ: equality of data of any depth -/
namespace Rw
open PySem PySem.Spec PyProof.Rows L2
/-- a representation's data, as the kit's plain data -/
structure Ec {α : Type} (A : Rp α) where
  enc : α → PyData
  dp : ∀ {K : PySem.W.Frag} {G H : Hp} {v : V} {a : α}, Same G H → A.rel K G v a → Dp K H v (enc a)
  lay : ∀ {K : PySem.W.Frag} {G : Hp} {v : V} {a : α}, A.rel K G v a → (enc a).canLay0 = true
def Inj {α : Type} {A : Rp α} (E : Ec A) : Prop := ∀ a b, PyData.eqv (E.enc a) (E.enc b) = true ↔ a = b
def ecInt : Ec Rp.int := ⟨fun i => .int i, fun {K G H v a} _ h => by rw [show v = .int a from h]; exact .int a, fun _ => rfl⟩
def ecStr : Ec Rp.str := ⟨fun i => .str i, fun {K G H v a} _ h => by rw [h.1]; exact .str a, fun h => h.2.2⟩
theorem dpall {α : Type} {A : Rp α} (E : Ec A) {K : PySem.W.Frag} {G H : Hp} (s : Same G H) {vs : List V} {xs : List α} (h : Paired (A.rel K G) vs xs) : DpAll K H vs (xs.map E.enc) := by
  induction h with
  | nil => exact .nil
  | cons h _ ih => exact .cons (E.dp s h) ih
theorem layall {α : Type} {A : Rp α} (E : Ec A) {K : PySem.W.Frag} {G : Hp} {vs : List V} {xs : List α} (h : Paired (A.rel K G) vs xs) : PyData.canLayAll0 (xs.map E.enc) = true := by
  induction h with
  | nil => rfl
  | cons h _ ih => rw [List.map_cons, PyData.canLayAll0, E.lay h, ih]; rfl
def ecLst {α : Type} {A : Rp α} (E : Ec A) : Ec A.lst := ⟨fun xs => .list (xs.map E.enc), fun s ⟨p, vs, e, h, r, _⟩ => by rw [e]; exact .lst (SqL.of (s _ _ h)) (dpall E s r), fun ⟨p, vs, e, h, r, _⟩ => layall E r⟩
def ecTup {α : Type} {A : Rp α} (E : Ec A) : Ec A.tup := ⟨fun xs => .tuple (xs.map E.enc), fun s ⟨p, vs, e, h, r, _⟩ => by rw [e]; exact .tup (same_t s h) (dpall E s r), fun ⟨p, vs, e, h, r, _⟩ => layall E r⟩
def ecPair {α β : Type} {A : Rp α} {C : Rp β} (E : Ec A) (F : Ec C) : Ec (A.pair C) := ⟨fun x => .tuple [E.enc x.1, F.enc x.2], fun s ⟨p, u, w, e, h, r1, r2⟩ => by rw [e]; exact .tup (same_t s h) (.cons (E.dp s r1) (.cons (F.dp s r2) .nil)),
  fun ⟨p, u, w, e, h, r1, r2⟩ => by rw [PyData.canLay0, PyData.canLayAll0, PyData.canLayAll0, PyData.canLayAll0, E.lay r1, F.lay r2]; rfl⟩
mutual
def encT : Tr → PyData
  | .leaf s => .str s
  | .node n ts => .tuple [.int n, .tuple (encTs ts)]
def encTs : List Tr → List PyData
  | [] => []
  | t :: ts => encT t :: encTs ts
end
mutual
theorem dpT {K : PySem.W.Frag} {G H : Hp} (s : Same G H) : ∀ (t : Tr) (v : V), TrR K G v t → Dp K H v (encT t)
  | .leaf x, _, h => by cases h; rw [encT]; exact .str x
  | .node n ts, _, h => by
    cases h with
    | node h1 h2 h3 h4 => rw [encT]; exact .tup (same_t s h1) (.cons (.int n) (.cons (.tup (same_t s h2) (dpTs s ts _ h3)) .nil))
theorem dpTs {K : PySem.W.Frag} {G H : Hp} (s : Same G H) : ∀ (ts : List Tr) (vs : List V), TrRs K G vs ts → DpAll K H vs (encTs ts)
  | [], _, h => by cases h; rw [encTs]; exact .nil
  | t :: ts, _, h => by cases h with | cons h1 h2 => rw [encTs]; exact .cons (dpT s t _ h1) (dpTs s ts _ h2)
end
mutual
theorem layT {K : PySem.W.Frag} {G : Hp} : ∀ (t : Tr) (v : V), TrR K G v t → (encT t).canLay0 = true
  | .leaf x, _, h => by cases h with | leaf h => rw [encT]; exact h.2
  | .node n ts, _, h => by
    cases h with
    | node h1 h2 h3 h4 =>
      have := layTs ts _ h3
      rw [encT]
      show (true && (PyData.canLayAll0 (encTs ts) && true)) = true
      rw [this]; rfl
theorem layTs {K : PySem.W.Frag} {G : Hp} : ∀ (ts : List Tr) (vs : List V), TrRs K G vs ts → PyData.canLayAll0 (encTs ts) = true
  | [], _, h => by rw [encTs]; rfl
  | t :: ts, _, h => by cases h with | cons h1 h2 => rw [encTs, PyData.canLayAll0, layT t _ h1, layTs ts _ h2]; rfl
end
def ecTr : Ec Rp.tr := ⟨encT, fun s h => dpT s _ _ h, fun h => layT _ _ h⟩
theorem inj_int : Inj ecInt := fun a b => by show (a == b) = true ↔ _; simp
theorem inj_str : Inj ecStr := fun a b => by show (a == b) = true ↔ _; simp
theorem inj_all {α : Type} {A : Rp α} {E : Ec A} (I : Inj E) : ∀ xs ys : List α, PyData.eqvAll (xs.map E.enc) (ys.map E.enc) = true ↔ xs = ys
  | [], [] => by simp [PyData.eqvAll]
  | [], _ :: _ => by simp [PyData.eqvAll]
  | _ :: _, [] => by simp [PyData.eqvAll]
  | x :: xs, y :: ys => by
    rw [List.map_cons, List.map_cons, PyData.eqvAll, Bool.and_eq_true, I x y, inj_all I xs ys, List.cons.injEq]
theorem inj_lst {α : Type} {A : Rp α} {E : Ec A} (I : Inj E) : Inj (ecLst E) := fun xs ys => by
  show PyData.eqv (.list _) (.list _) = true ↔ _
  rw [PyData.eqv]; exact inj_all I xs ys
theorem inj_tup {α : Type} {A : Rp α} {E : Ec A} (I : Inj E) : Inj (ecTup E) := fun xs ys => by
  show PyData.eqv (.tuple _) (.tuple _) = true ↔ _
  rw [PyData.eqv]; exact inj_all I xs ys
theorem inj_pair {α β : Type} {A : Rp α} {C : Rp β} {E : Ec A} {F : Ec C} (I : Inj E) (J : Inj F) : Inj (ecPair E F) := fun x y => by
  show PyData.eqv (.tuple [_, _]) (.tuple [_, _]) = true ↔ _
  rw [PyData.eqv, PyData.eqvAll, PyData.eqvAll, PyData.eqvAll, Bool.and_eq_true, Bool.and_eq_true, I x.1 y.1, J x.2 y.2]
  constructor
  · rintro ⟨a, b, _⟩; exact Prod.ext a b
  · rintro rfl; exact ⟨rfl, rfl, rfl⟩
mutual
theorem injT : ∀ a b : Tr, PyData.eqv (encT a) (encT b) = true ↔ a = b
  | .leaf x, .leaf y => by rw [encT, encT, PyData.eqv]; simp
  | .leaf x, .node n ts => by rw [encT, encT]; simp [PyData.eqv]
  | .node n ts, .leaf y => by rw [encT, encT]; simp [PyData.eqv]
  | .node n ts, .node m us => by
    rw [encT, encT, PyData.eqv, PyData.eqvAll, PyData.eqvAll, PyData.eqvAll, PyData.eqv, PyData.eqv, Bool.and_eq_true, Bool.and_eq_true, injTs ts us]
    simp
theorem injTs : ∀ a b : List Tr, PyData.eqvAll (encTs a) (encTs b) = true ↔ a = b
  | [], [] => by simp [encTs, PyData.eqvAll]
  | [], _ :: _ => by simp [encTs, PyData.eqvAll]
  | _ :: _, [] => by simp [encTs, PyData.eqvAll]
  | x :: xs, y :: ys => by rw [encTs, encTs, PyData.eqvAll, Bool.and_eq_true, injT x y, injTs xs ys, List.cons.injEq]
end
theorem inj_tr : Inj ecTr := injT
mutual
theorem depT : ∀ a : Tr, (encT a).depth ≤ 2 * depth a
  | .leaf x => by rw [encT]; exact Nat.zero_le _
  | .node n ts => by
    have := depTs ts
    rw [encT, depth]
    simp only [PyData.depth, PyData.depthAll]
    omega
theorem depTs : ∀ a : List Tr, PyData.depthAll (encTs a) ≤ 2 * depthL a
  | [] => by rw [encTs]; exact Nat.zero_le _
  | x :: xs => by
    have h1 := depT x
    have h2 := depTs xs
    rw [encTs, PyData.depthAll, depthL]; omega
end
section
variable {X : Cx} {B : Bs} {es : List Sl}
def rQ (K : PySem.W.Frag) (n : Nat) (f : PyData → PyData → Bool) : R2 := fun x y H Q => ∃ d e, Dp K H x d ∧ Dp K H y e ∧ d.canLay0 = true ∧ e.canLay0 = true ∧ min d.depth e.depth ≤ n ∧ Q (.bl (f d e)) H
theorem op_eqQ {n : Nat} (hu : X.A.units + n < cLine) : OpR X (compareOp .Eq) (rQ X.K n PyData.eqv) := by
  intro pins s σ H x y v u Q I rx ry h
  obtain ⟨d, e, hd, he, sd, se, hn, q⟩ := h
  obtain ⟨as, r1⟩ := Dp.reads I d x v hd rx
  obtain ⟨bs, r2⟩ := Dp.reads I e y u he ry
  exact SeqAt.compareEq_reads r1 r2 sd se (by omega) ⟨.bl _, H, I, rfl, q⟩
theorem op_neQ {n : Nat} (hu : X.A.units + n < cLine) : OpR X (compareOp .NotEq) (rQ X.K n fun d e => !PyData.eqv d e) := by
  intro pins s σ H x y v u Q I rx ry h
  obtain ⟨d, e, hd, he, sd, se, hn, q⟩ := h
  obtain ⟨as, r1⟩ := Dp.reads I d x v hd rx
  obtain ⟨bs, r2⟩ := Dp.reads I e y u he ry
  exact SeqAt.compareNe_reads r1 r2 sd se (by omega) ⟨.bl _, H, I, rfl, q⟩
variable {α β : Type} {A : Rp α} {C : Rp β} {x : α} {y : β} {n : Nat}
theorem cmp_eqX (E : Ec A) (F : Ec C) (hn : min (E.enc x).depth (F.enc y).depth ≤ n) (hu : X.A.units + n < cLine) : Cmp X .Eq (A.at x) (C.at y) (PyData.eqv (E.enc x) (F.enc y)) := ⟨_, op_eqQ hu, Op2.val fun G H u v Q s hx hy => ⟨_, rfl, fun q =>
  ⟨_, _, E.dp s hx, F.dp s hy, E.lay hx, F.lay hy, hn, q⟩⟩⟩
theorem cmp_neX (E : Ec A) (F : Ec C) (hn : min (E.enc x).depth (F.enc y).depth ≤ n) (hu : X.A.units + n < cLine) : Cmp X .NotEq (A.at x) (C.at y) (!PyData.eqv (E.enc x) (F.enc y)) := ⟨_, op_neQ hu, Op2.val fun G H u v Q s hx hy => ⟨_, rfl, fun q =>
  ⟨_, _, E.dp s hx, F.dp s hy, E.lay hx, F.lay hy, hn, q⟩⟩⟩
theorem cmp_eqQ [DecidableEq α] (E : Ec A) (I : Inj E) {z : α} (hn : (E.enc x).depth ≤ n) (hu : X.A.units + n < cLine) : Cmp X .Eq (A.at x) (A.at z) (decide (x = z)) := by
  have := cmp_eqX (X := X) (x := x) (y := z) E E (Nat.le_trans (Nat.min_le_left _ _) hn) hu
  rwa [show PyData.eqv (E.enc x) (E.enc z) = decide (x = z) by rw [Bool.eq_iff_iff, I x z, decide_eq_true_eq]] at this
theorem cmp_neQ [DecidableEq α] (E : Ec A) (I : Inj E) {z : α} (hn : (E.enc x).depth ≤ n) (hu : X.A.units + n < cLine) : Cmp X .NotEq (A.at x) (A.at z) (!decide (x = z)) := by
  have := cmp_neX (X := X) (x := x) (y := z) E E (Nat.le_trans (Nat.min_le_left _ _) hn) hu
  rwa [show PyData.eqv (E.enc x) (E.enc z) = decide (x = z) by rw [Bool.eq_iff_iff, I x z, decide_eq_true_eq]] at this
end
theorem hu_n {A : Around} {k n : Nat} (hr : Room k A) (h : n ≤ 16 * k + 200) : A.units + n < cLine := by have := hr.un; omega
theorem dep_strs (xs : List Str) : PyData.depthAll (xs.map fun i => PyData.str i) = 0 := by
  induction xs with
  | nil => rfl
  | cons x xs ih => rw [List.map_cons, PyData.depthAll, ih]; rfl
theorem dep_tupS (xs : List Str) : ((ecTup ecStr).enc xs).depth = 1 := by
  show PyData.depth (.tuple _) = 1
  rw [PyData.depth, show (xs.map ecStr.enc) = xs.map fun i => PyData.str i from rfl, dep_strs]
theorem dep_lstS (xs : List Str) : ((ecLst ecStr).enc xs).depth = 1 := by
  show PyData.depth (.list _) = 1
  rw [PyData.depth, show (xs.map ecStr.enc) = xs.map fun i => PyData.str i from rfl, dep_strs]
def ecRule : Ec rRule := ecPair ecStr (ecTup ecStr)
theorem inj_rule : Inj ecRule := inj_pair inj_str (inj_tup inj_str)
theorem dep_rule (r : Rule) : (ecRule.enc r).depth = 2 := by
  show PyData.depth (.tuple [_, _]) = 2
  rw [PyData.depth, PyData.depthAll, PyData.depthAll, PyData.depthAll, dep_tupS]; rfl
theorem dep_rules (g : Gram) : PyData.depthAll (g.map ecRule.enc) ≤ 2 := by
  induction g with
  | nil => exact Nat.zero_le _
  | cons r g ih =>
    rw [List.map_cons, PyData.depthAll, dep_rule]; omega
def ecGram : Ec rGram := ecLst ecRule
theorem inj_gram : Inj ecGram := inj_lst inj_rule
theorem dep_gram (g : Gram) : (ecGram.enc g).depth ≤ 3 := by
  have := dep_rules g
  show PyData.depth (.list _) ≤ 3
  rw [PyData.depth]; omega
end Rw

/-! RwW: rulewright/emptying.py -/
namespace Rw
open PySem PyProof.Rows L2
/-! empty_trees: the turns -/
def EtSt (g : Gram) (n : Nat) (f : List (Str × Tr)) (flag : Bool) : Prop :=
  (f.map (·.1)).Nodup ∧ (∀ k ∈ f.map (·.1), k ∈ g.map (·.1)) ∧ ((flag = true ∧ ∃ m, n = m + 1 ∧ etN g m f = emptyTrees g ∧ g.length + 1 ≤ f.length + m) ∨ (flag = false ∧ f = emptyTrees g))
structure EtIn (g : Gram) (f0 : List (Str × Tr)) (i : Nat) (f : List (Str × Tr)) (flag : Bool) : Prop where
  fold : ((enumI g).drop i).foldl etStep f = etTurn g f0
  nd : (f.map (·.1)).Nodup
  sub : ∀ k ∈ f.map (·.1), k ∈ g.map (·.1)
  le : f0.length ≤ f.length
  flag : flag = decide (f.length ≠ f0.length)
section
variable {g : Gram} {f f0 : List (Str × Tr)} {n i : Nat} {flag : Bool} {r : Rule} {k : Int}
theorem dhas_mem {κ α : Type} [DecidableEq κ] {l : List (κ × α)} {k : κ} : dhas l k = true ↔ k ∈ l.map (·.1) := by
  unfold dhas
  rw [List.any_eq_true, List.mem_map]
  constructor
  · rintro ⟨x, hx, e⟩; exact ⟨x, hx, of_decide_eq_true e⟩
  · rintro ⟨x, hx, e⟩; exact ⟨x, hx, decide_eq_true e⟩
theorem dget_of_has {κ α : Type} [DecidableEq κ] [Inhabited α] {l : List (κ × α)} {k : κ} (h : dhas l k = true) : dget l k = some ((dget l k).getD default) := by
  rw [← dget_isSome] at h
  cases e : dget l k with
  | none => rw [e] at h; cases h
  | some v => rfl
theorem dput_new {κ α : Type} [DecidableEq κ] {l : List (κ × α)} {k : κ} {v : α} (h : dhas l k = false) : dput l k v = l ++ [(k, v)] := by
  unfold dput; rw [h]; rfl
theorem EtSt.init : EtSt g (g.length + 2) [] true := ⟨List.nodup_nil, fun k h => (by cases h), .inl ⟨rfl, g.length + 1, rfl, rfl, by simp⟩⟩
theorem EtIn.lenK (h : EtIn g f0 i f flag) : f.length ≤ g.length := by
  have := nodup_le h.nd h.sub
  simpa using this
theorem EtSt.turn (h : EtSt g n f true) : EtIn g f 0 f false := ⟨rfl, h.1, h.2.1, Nat.le_refl _, by simp⟩
theorem EtIn.yes (h : EtIn g f0 i f flag) (hi : (enumI g)[i]? = some (k, r)) (c : (!dhas f r.1 && r.2.all (fun p => dhas f p)) = true) : EtIn g f0 (i + 1) (dput f r.1 (.node k (r.2.map fun p => (dget f p).getD default))) true := by
  have hm : dhas f r.1 = false := by simp only [Bool.and_eq_true, Bool.not_eq_true'] at c; exact c.1
  have hr : r ∈ g := by
    obtain ⟨_, _, j, _, hj⟩ := enumI_mem (List.mem_of_getElem? hi)
    exact List.mem_of_getElem? hj
  have hnm : r.1 ∉ f.map (·.1) := fun q => by rw [dhas_mem.mpr q] at hm; cases hm
  have hf := h.fold
  rw [drop_get hi, List.foldl_cons, etStep, if_pos c] at hf
  refine ⟨hf, ?_, ?_, ?_, ?_⟩
  · rw [dput_new hm, List.map_append, List.nodup_append]
    exact ⟨h.nd, by simp, fun a ha b hb => by simp at hb; subst hb; exact fun e => hnm (e ▸ ha)⟩
  · rw [dput_new hm, List.map_append]
    intro q hq
    rcases List.mem_append.mp hq with e | e
    · exact h.sub q e
    · simp at e; subst e; exact List.mem_map.mpr ⟨r, hr, rfl⟩
  · have := h.le; rw [dput_new hm, List.length_append]; omega
  · have := h.le; rw [dput_new hm, List.length_append, List.length_singleton]; symm; rw [decide_eq_true_eq]; omega
theorem EtIn.no (h : EtIn g f0 i f flag) (hi : (enumI g)[i]? = some (k, r)) (c : (!dhas f r.1 && r.2.all (fun p => dhas f p)) = false) : EtIn g f0 (i + 1) f flag := by
  have hf := h.fold
  rw [drop_get hi, List.foldl_cons, etStep, c, if_neg Bool.false_ne_true] at hf
  exact ⟨hf, h.nd, h.sub, h.le, h.flag⟩
theorem EtIn.done (h0 : EtSt g n f0 true) (h : EtIn g f0 (enumI g).length f flag) : ∃ m, m < n ∧ EtSt g m f flag := by
  obtain ⟨h1, h2, h3⟩ := h0
  have h0l : f0.length ≤ g.length := by have := nodup_le h1 h2; simpa using this
  have hk : f = etTurn g f0 := by have := h.fold; rw [List.drop_length] at this; exact this
  rcases h3 with ⟨_, m, rfl, hg, hl⟩ | ⟨q, _⟩
  · cases m with
    | zero => omega
    | succ m =>
      rw [etN] at hg
      by_cases c : f.length = f0.length
      · refine ⟨0, by omega, h.nd, h.sub, .inr ⟨?_, ?_⟩⟩
        · rw [h.flag]; simp [c]
        · rw [if_pos (by rw [← hk]; exact c), ← hk] at hg; exact hg
      · refine ⟨m + 1, by omega, h.nd, h.sub, .inl ⟨by rw [h.flag]; simp [c], m, rfl, ?_, ?_⟩⟩
        · rw [if_neg (by rw [← hk]; exact c), ← hk] at hg; exact hg
        · have := h.le; omega
  · cases q
theorem EtSt.out (h : EtSt g n f false) : f = emptyTrees g := by
  rcases h.2.2 with ⟨q, _⟩ | ⟨_, q⟩
  · exact absurd q (by decide)
  · exact q
end
abbrev rPlace : Rp Place := Rp.sum Rp.int Rp.tr
abbrev rEntry : Rp Entry := Rp.int.pair rPlace.tup
/-- a way that fits the parts: what is left out makes the empty text -/
def OkWay (hollow : List (Str × Tr)) (ps : List Str) (ws : List Bool) : Prop := ps.length = ws.length ∧ ps.length ≤ 6 ∧ ∀ (k : Nat) (p : Str), ps[k]? = some p → ws[k]? = some false → dhas hollow p = true
section
variable (P : Program) (w : World) (K : PySem.W.Frag) (mg : Str → Option Value) (base : Heap) (cls : Kd → Addr)
abbrev D_empty_trees := Df P w K mg base CX0 "empty_trees" ["grammar"] 1 (spI K (ι := Gram) (fun g => [.dat rGram g]) Sm Rp.tr.dct emptyTrees)
abbrev D_ways_to_leave := Df P w K mg base CX0 "ways_to_leave" ["parts", "full", "hollow"] 2 (spI K (ι := List Str × List (Str × Bool) × List (Str × Tr)) (fun i => [.dat Rp.str.tup i.1, .dat Rp.bl.dct i.2.1, .dat Rp.tr.dct i.2.2]) (fun i => i.1.length ≤ 6) Rp.bl.lst.lst (fun i => ways i.1 i.2.1 i.2.2))
abbrev D_entry_by := Df P w K mg base CX0 "entry_by" ["number", "parts", "way", "hollow"] 1 (spI K (ι := Int × List Str × List Bool × List (Str × Tr)) (fun i => [.dat Rp.int i.1, .dat Rp.str.tup i.2.1, .dat Rp.bl.lst i.2.2.1, .dat Rp.tr.dct i.2.2.2]) (fun i => OkWay i.2.2.2 i.2.1 i.2.2.1) rEntry (fun i => (i.1, places i.2.2.2 i.2.1 i.2.2.1 0)))
abbrev D_emptied := Df P w K mg base (L2N.CX P w) "emptied" ["grammar"] 5 (spE K cls (ι := Gram) (fun g => [.dat rGram g]) WF (rGram.pair rEntry.lst) emptied)
end
section
variable {P : Program} {w : World} {K : PySem.W.Frag} {mg : Str → Option Value} {base : Heap} {cls : Kd → Addr}
theorem ok_empty_trees (T : Top K mg "empty_trees" st_empty_trees ["grammar"]) (M : Blt mg) : D_empty_trees P w K mg base := T.df fun f fd F => by
  refine fn_pure F sc_empty_trees (fun _ => rfl) no1 fun g S cdv Aa outer sh H E B hr => ?_
  show PSl _ _ [.dat rGram g, .un, .un, .un, .un, .un] _ _
  have hl := S.len
  refine ss_ownD 1 Rp.tr ?_ sc_empty_trees.nd
  refine ss_set 2 pr_bl ?_ sc_empty_trees.nd
  refine ss_while (n0 := g.length + 2) (fun n es => ∃ f flag a b, EtSt g n f flag ∧ es = [.dat rGram g, .own (.dct Rp.tr f), .dat Rp.bl flag, a, b, .un]) ⟨[], true, .un, .un, EtSt.init, rfl⟩ ?_ PassesOwn.never
  rintro B' n _ ⟨f0, flag, a, b, G0, rfl⟩
  refine ⟨flag, pb_val (pr_var 2), fun hf => ?_, fun hf => ?_⟩
  · subst hf
    refine ss_set 2 pr_bl ?_ sc_empty_trees.nd
    refine ss_for (fun i es => ∃ f flag a b, EtIn g f0 i f flag ∧ es = [.dat rGram g, .own (.dct Rp.tr f), .dat Rp.bl flag, a, b, .un])
      (it_enum (pr_var 0) M.enumerate) (tg_pair 3 4 rfl sc_empty_trees.nd) ⟨f0, false, a, b, G0.turn, rfl⟩ ?_ ?_ PassesOwn.never rfl
    · rintro B' i ⟨k, r⟩ _ hi ⟨f, flag, a, b, GI, rfl⟩
      show PSl _ _ [.dat rGram g, .own (.dct Rp.tr f), .dat Rp.bl flag, .dat Rp.int k, .dat rRule r, .un] _ _
      have hp := S.parts r (by
        obtain ⟨_, _, j, _, hj⟩ := enumI_mem (List.mem_of_getElem? hi)
        exact List.mem_of_getElem? hj)
      have hk := GI.lenK
      refine ss_if2 (k := !dhas f r.1 && r.2.all (fun p => dhas f p)) (pb_w (pbw_and (pb_dni (hu1 hr) (pr_ix (pr_var 4) pr_int ix_P0) (pr_ownD 1)) fun _ => pbw_and1 (pb_val (pr_eq (pr_callB (par_cons (pr_l (pr_lcm [("part", 5)] (fun p => dhas f p) (it_tup (pr_ix (pr_var 4) pr_int ix_P1)) (fun _ _ _ _ _ => tg_name 5 sc_empty_trees.nd)
          (fun y hy _ _ _ _ _ => pr_din (hu1 hr) (pr_var 5) (pr_ownD 1)) (small (by omega)) sc_empty_trees.nd)) par_nil) M.all (cb_all rfl)) (by rw [List.all_map]; rfl))))) (fun c => ?_) (fun c => ?_)
      · have ha : ∀ p ∈ r.2, dhas f p = true := by
          simp only [Bool.and_eq_true, List.all_eq_true] at c; exact c.2
        refine ss_dput 1 (pr_conv (pr_pair (pr_var 3) (pr_callT (par_cons (pr_l (pr_lcm [("part", 5)] (fun p => (dget f p).getD default) (it_tup (pr_ix (pr_var 4) pr_int ix_P1)) (fun _ _ _ _ _ => tg_name 5 sc_empty_trees.nd)
          (fun y hy _ _ _ _ _ => pr_dget (hu1 hr) (pr_ownD 1) (pr_var 5) (dget_of_has (ha y hy))) (small (by omega)) sc_empty_trees.nd)) par_nil) M.tuple cb_tuple)) (fun _ _ h => node_of (by rw [List.length_map]; omega) h)) (pr_ix (pr_var 4) pr_int ix_P0) ?_ (hu1 hr) ?_
        rotate_left
        · exact smallL (by omega)
        exact ss_set 2 pr_bl (ss_nil (ss_nil ⟨_, true, .dat Rp.int k, .dat rRule r, GI.yes hi c, rfl⟩)) sc_empty_trees.nd
      · exact ss_nil (ss_nil ⟨f, flag, _, _, GI.no hi c, rfl⟩)
    · rintro _ ⟨f, flag, a, b, GI, rfl⟩
      obtain ⟨m, hm, G1⟩ := GI.done G0
      exact ss_nil ⟨m, hm, f, flag, a, b, G1, rfl⟩
  · subst hf
    have e := G0.out
    refine ss_frzD 1 ?_
    refine ss_ret (pr_var 1) fun G v h => ?_
    rw [e] at h
    exact h
/-! ways_to_leave -/
theorem ways_snoc {ps : List Str} {full : List (Str × Bool)} {hollow : List (Str × Tr)} {i : Nat} {p : Str} (h : ps[i]? = some p) : ways (ps.take (i + 1)) full hollow = (ways (ps.take i) full hollow).flatMap (wayStep full hollow p) := by
  unfold ways
  rw [take_succ h, List.foldl_append]; rfl
theorem wayStep_len {full : List (Str × Bool)} {hollow : List (Str × Tr)} {p : Str} {way : List Bool} : (wayStep full hollow p way).length ≤ 2 := by
  unfold wayStep
  rw [List.length_append]
  split <;> split <;> simp
theorem flatMap_len2 {α β : Type} {f : α → List β} (hf : ∀ x, (f x).length ≤ 2) : ∀ l : List α, (l.flatMap f).length ≤ 2 * l.length
  | [] => by simp
  | a :: l => by
    have := hf a
    have := flatMap_len2 hf l
    rw [List.flatMap_cons, List.length_append, List.length_cons]; omega
theorem ways_take {ps : List Str} {full : List (Str × Bool)} {hollow : List (Str × Tr)} : ∀ i, i ≤ ps.length → (ways (ps.take i) full hollow).length ≤ 2 ^ i ∧ ∀ x ∈ ways (ps.take i) full hollow, x.length = i ∧ ∀ (k : Nat) (p : Str), ps[k]? = some p → x[k]? = some false → dhas hollow p = true
  | 0, _ => by
    show ([[]] : List (List Bool)).length ≤ 1 ∧ _
    refine ⟨Nat.le_refl _, fun x hx => ?_⟩
    have hx : x ∈ ([[]] : List (List Bool)) := hx
    simp at hx; subst hx
    exact ⟨rfl, fun k p _ h => by simp at h⟩
  | i + 1, hi => by
    obtain ⟨h1, h2⟩ := ways_take (ps := ps) (full := full) (hollow := hollow) i (by omega)
    have hp : ps[i]? = some ps[i] := List.getElem?_eq_getElem (by omega)
    rw [ways_snoc hp]
    refine ⟨?_, fun x hx => ?_⟩
    · have := flatMap_len2 (f := wayStep full hollow ps[i]) (fun _ => wayStep_len) (ways (ps.take i) full hollow)
      rw [Nat.pow_succ]; omega
    · obtain ⟨y, hy, hx⟩ := List.mem_flatMap.mp hx
      obtain ⟨h3, h4⟩ := h2 y hy
      unfold wayStep at hx
      have key : ∀ b, (b = false → dhas hollow ps[i] = true) → x = y ++ [b] → x.length = i + 1 ∧ ∀ (k : Nat) (p : Str), ps[k]? = some p → x[k]? = some false → dhas hollow p = true := by
        rintro b hb rfl
        refine ⟨by simp [h3], fun k p hk hz => ?_⟩
        by_cases c : k < i
        · rw [List.getElem?_append_left (by omega)] at hz
          exact h4 k p hk hz
        · by_cases c2 : k = i
          · rw [c2, hp] at hk; cases hk
            rw [c2, List.getElem?_append_right (by omega), h3] at hz
            simp at hz
            exact hb hz
          · rw [List.getElem?_eq_none (by simp; omega)] at hz; cases hz
      rcases List.mem_append.mp hx with q | q
      · split at q
        · exact key true (by simp) (by simpa using q)
        · cases q
      · split at q
        · rename_i hh
          exact key false (fun _ => hh) (by simpa using q)
        · cases q
theorem ways_ok {ps : List Str} {full : List (Str × Bool)} {hollow : List (Str × Tr)} (h6 : ps.length ≤ 6) : (ways ps full hollow).length ≤ 64 ∧ ∀ x ∈ ways ps full hollow, OkWay hollow ps x := by
  have := ways_take (ps := ps) (full := full) (hollow := hollow) ps.length (Nat.le_refl _)
  rw [List.take_length] at this
  refine ⟨Nat.le_trans this.1 (Nat.le_trans (Nat.pow_le_pow_right (by decide) h6) (by decide)), fun x hx => ⟨(this.2 x hx).1.symm, h6, (this.2 x hx).2⟩⟩
theorem ok_ways_to_leave (T : Top K mg "ways_to_leave" st_ways_to_leave ["parts", "full", "hollow"]) (D1 : D_is_letter P w K mg base) : D_ways_to_leave P w K mg base := T.df fun f fd F => by
  refine fn_pure F sc_ways_to_leave (fun _ => rfl) no3 fun ⟨ps, full, hollow⟩ h6 cdv Aa outer sh H E B hr => ?_
  have h6 : ps.length ≤ 6 := h6
  show PSl _ _ [.dat Rp.str.tup ps, .dat Rp.bl.dct full, .dat Rp.tr.dct hollow, .un, .un, .un, .un] _ _
  refine ss_set 3 (pr_lst Rp.bl.lst [[]] (par_cons (pr_lst Rp.bl [] par_nil) par_nil)) ?_ sc_ways_to_leave.nd
  refine ss_for (fun i es => ∃ a b c, es = [.dat Rp.str.tup ps, .dat Rp.bl.dct full, .dat Rp.tr.dct hollow, .dat Rp.bl.lst.lst (ways (ps.take i) full hollow), a, b, c])
    (it_tup (pr_var 0)) (tg_name 4 sc_ways_to_leave.nd) ⟨.un, .un, .un, rfl⟩ ?_ ?_ PassesOwn.never rfl
  · rintro B' i p _ hi ⟨a, b, c, rfl⟩
    have hil := (List.getElem?_eq_some_iff.mp hi).1
    obtain ⟨hw1, hw2⟩ := ways_take (ps := ps) (full := full) (hollow := hollow) i (by omega)
    have h64 : 2 ^ i ≤ 64 := Nat.le_trans (Nat.pow_le_pow_right (by decide) (show i ≤ 6 by omega)) (by decide)
    show PSl _ _ [.dat Rp.str.tup ps, .dat Rp.bl.dct full, .dat Rp.tr.dct hollow, .dat Rp.bl.lst.lst (ways (ps.take i) full hollow), .dat Rp.str p, b, c] _ _
    refine ss_own0 5 Rp.bl.lst ?_ sc_ways_to_leave.nd
    refine ss_for (fun j es => ∃ c, es = [.dat Rp.str.tup ps, .dat Rp.bl.dct full, .dat Rp.tr.dct hollow, .dat Rp.bl.lst.lst (ways (ps.take i) full hollow), .dat Rp.str p, .own (.lst Rp.bl.lst (((ways (ps.take i) full hollow).take j).flatMap (wayStep full hollow p))), c])
      (it_list (pr_var 3)) (tg_name 6 sc_ways_to_leave.nd) ⟨c, rfl⟩ ?_ ?_ PassesOwn.never rfl
    · rintro B' j way _ hj ⟨c, rfl⟩
      have hwl := (hw2 way (List.mem_of_getElem? hj)).1
      have hfl := flatMap_len2 (f := wayStep full hollow p) (fun _ => wayStep_len) ((ways (ps.take i) full hollow).take j)
      have hjl : ((ways (ps.take i) full hollow).take j).length ≤ 64 := by rw [List.length_take]; omega
      show PSl _ _ [.dat Rp.str.tup ps, .dat Rp.bl.dct full, .dat Rp.tr.dct hollow, .dat Rp.bl.lst.lst (ways (ps.take i) full hollow), .dat Rp.str p, .own (.lst Rp.bl.lst (((ways (ps.take i) full hollow).take j).flatMap (wayStep full hollow p))), .dat Rp.bl.lst way] _ _
      have hz1 : ∀ {b : Bool}, way.length + [b].length ≤ sizeLine := by intro b; rw [hwl, List.length_singleton]; exact small (by omega)
      have key : ∀ l : List (List Bool), ((ways (ps.take i) full hollow).take j).flatMap (wayStep full hollow p) ++ wayStep full hollow p way = l → l = ((ways (ps.take i) full hollow).take (j + 1)).flatMap (wayStep full hollow p) := by
        intro l e
        rw [take_succ hj, List.flatMap_append, List.flatMap_cons, List.flatMap_nil, List.append_nil, e]
      refine ss_if2 (k := isLetter p || dhas full p) (pb_w (pbw_or (pb_val (pr_call D1 hr p (par_cons (pr_var 4) par_nil) trivial)) fun _ => pbw_or1 (pb_din (hu1 hr) (pr_var 4) (pr_d (pr_var 1))))) (fun c1 => ?_) (fun c1 => ?_)
      · refine ss_append 5 (pr_bin (pr_l (pr_var 6)) (pr_l (pr_lst Rp.bl [true] (par_cons pr_bl par_nil))) (bin_cat hz1)) ?_ ?_
        rotate_left
        · exact smallL (by omega)
        refine ss_nil ?_
        refine ss_if2 (pb_din (hu1 hr) (pr_var 4) (pr_d (pr_var 2))) (fun c2 => ?_) (fun c2 => ?_)
        · refine ss_append 5 (pr_bin (pr_l (pr_var 6)) (pr_l (pr_lst Rp.bl [false] (par_cons pr_bl par_nil))) (bin_cat hz1)) ?_ ?_
          rotate_left
          · rw [List.length_append, List.length_singleton]; exact smallL (by omega)
          refine ss_nil (ss_nil ⟨.dat Rp.bl.lst way, ?_⟩)
          rw [← key _ rfl, wayStep, c1, c2]
          simp
        · refine ss_nil (ss_nil ⟨.dat Rp.bl.lst way, ?_⟩)
          rw [← key _ rfl, wayStep, c1, c2]
          simp
      · refine ss_nil ?_
        refine ss_if2 (pb_din (hu1 hr) (pr_var 4) (pr_d (pr_var 2))) (fun c2 => ?_) (fun c2 => ?_)
        · refine ss_append 5 (pr_bin (pr_l (pr_var 6)) (pr_l (pr_lst Rp.bl [false] (par_cons pr_bl par_nil))) (bin_cat hz1)) ?_ ?_
          rotate_left
          · exact smallL (by omega)
          refine ss_nil (ss_nil ⟨.dat Rp.bl.lst way, ?_⟩)
          rw [← key _ rfl, wayStep, c1, c2]
          simp
        · refine ss_nil (ss_nil ⟨.dat Rp.bl.lst way, ?_⟩)
          rw [← key _ rfl, wayStep, c1, c2]
          simp
    · rintro _ ⟨c, rfl⟩
      rw [List.take_length, ← ways_snoc hi]
      refine ss_frzL 5 ?_
      refine ss_set 3 (pr_var 5) (ss_nil ⟨_, _, _, rfl⟩) sc_ways_to_leave.nd
  · rintro _ ⟨a, b, c, rfl⟩
    rw [List.take_length]
    exact ss_ret (pr_var 3) fun _ _ h => h
/-! entry_by -/
theorem places_len (hollow : List (Str × Tr)) : ∀ (ps : List Str) (ws : List Bool) (place : Int), (places hollow ps ws place).length ≤ ps.length
  | [], _, _ => by simp [places]
  | _ :: _, [], _ => by simp [places]
  | p :: ps, w :: ws, place => by
    have := places_len hollow ps ws (place + 1)
    have := places_len hollow ps ws place
    rw [places]
    split <;> rw [List.length_cons, List.length_cons] <;> omega
theorem ok_entry_by (T : Top K mg "entry_by" st_entry_by ["number", "parts", "way", "hollow"]) (M : Blt mg) : D_entry_by P w K mg base := T.df fun f fd F => by
  refine fn_pure F sc_entry_by (fun _ => rfl) no4 fun ⟨num, ps, ws, hollow⟩ ⟨hpl, h6, hh⟩ cdv Aa outer sh H E B hr => ?_
  have hpl : ps.length = ws.length := hpl
  have h6 : ps.length ≤ 6 := h6
  have hh : ∀ (k : Nat) (p : Str), ps[k]? = some p → ws[k]? = some false → dhas hollow p = true := hh
  show PSl _ _ [.dat Rp.int num, .dat Rp.str.tup ps, .dat Rp.bl.lst ws, .dat Rp.tr.dct hollow, .un, .un, .un] _ _
  refine ss_own0 4 rPlace ?_ sc_entry_by.nd
  refine ss_set 5 pr_int ?_ sc_entry_by.nd
  refine ss_for (fun i es => ∃ acc place a, acc.length = i ∧ acc ++ places hollow (ps.drop i) (ws.drop i) place = places hollow ps ws 0 ∧ es = [.dat Rp.int num, .dat Rp.str.tup ps, .dat Rp.bl.lst ws, .dat Rp.tr.dct hollow, .own (.lst rPlace acc), .dat Rp.int place, a])
    (it_range (pr_callB (par_cons (pr_var 1) par_nil) M.len cb_lenT) (by omega) (by omega) M.range) (tg_name 6 sc_entry_by.nd) ⟨[], 0, .un, rfl, rfl, rfl⟩ ?_ ?_ PassesOwn.never rfl
  · rintro B' i k _ hi ⟨acc, place, a, hl, he, rfl⟩
    show PSl _ _ [.dat Rp.int num, .dat Rp.str.tup ps, .dat Rp.bl.lst ws, .dat Rp.tr.dct hollow, .own (.lst rPlace acc), .dat Rp.int place, .dat Rp.int k] _ _
    have hil := (List.getElem?_eq_some_iff.mp hi).1
    rw [upTo_len] at hil
    have hk : k = (i : Int) := by
      have := upTo_map ps.length (fun k => k)
      rw [List.map_id'] at this
      rw [this, List.getElem?_map, List.getElem?_range hil] at hi
      cases hi; rfl
    subst hk
    have hp : ps[i]? = some ps[i] := List.getElem?_eq_getElem hil
    have hw : ws[i]? = some (ws[i]'(by omega)) := List.getElem?_eq_getElem (by omega)
    have ep : atI ps (i : Int) = some ps[i] := atI_nat hp
    have ew : atI ws (i : Int) = some (ws[i]'(by omega)) := atI_nat hw
    rw [drop_get hp, drop_get hw, places] at he
    refine ss_if2 (pb_val (pr_ix (pr_l (pr_var 2)) (pr_var 6) (ix_L ew))) (fun c => ?_) (fun c => ?_)
    · rw [c, if_pos rfl] at he
      refine ss_append 4 (d := Sum.inl place) (pr_conv (A := Rp.int) (a := place) (pr_var 5) fun _ _ h => h) ?_ ?_
      rotate_left
      · exact smallL (by omega)
      refine ss_set 5 (pr_bin (pr_var 5) pr_int bin_add) (ss_nil (ss_nil ⟨_, _, .dat Rp.int (i : Int), by simp [hl], ?_, rfl⟩)) sc_entry_by.nd
      rw [List.append_assoc]; exact he
    · rw [c, if_neg Bool.false_ne_true] at he
      have hd := hh i _ hp (by rw [hw, c])
      refine ss_append 4 (d := Sum.inr ((dget hollow ps[i]).getD default)) (pr_conv (A := Rp.tr) (a := (dget hollow ps[i]).getD default) (pr_dget (hu1 hr) (pr_d (pr_var 3)) (pr_ix (pr_var 1) (pr_var 6) (ix_T ep)) (dget_of_has hd)) fun _ _ h => h) ?_ ?_
      rotate_left
      · exact smallL (by omega)
      refine ss_nil (ss_nil ⟨_, _, .dat Rp.int (i : Int), by simp [hl], ?_, rfl⟩)
      rw [List.append_assoc]; exact he
  · rintro _ ⟨acc, place, a, hl, he, rfl⟩
    rw [upTo_len, List.drop_length] at he
    have e0 : places hollow [] (ws.drop ps.length) place = [] := by simp [places]
    rw [e0, List.append_nil] at he
    refine ss_frzL 4 ?_
    refine ss_ret (pr_pair (pr_var 0) (pr_callT (par_cons (pr_l (pr_var 4)) par_nil) M.tuple cb_tuple)) fun G v h => ?_
    rw [he] at h
    exact h
end
end Rw

/-! RwX: rulewright/emptying.py, the second part -/
namespace Rw
open PySem PyProof.Rows L2
theorem keptParts_range : ∀ (ps : List Str) (ws : List Bool), ps.length = ws.length → ((upTo ps.length).filter fun k => gi ws k).map (gi ps) = keptParts ps ws := by
  intro ps ws h
  have e1 : (upTo ps.length) = (List.range ps.length).map Int.ofNat := by unfold upTo; simp
  rw [e1, List.filter_map, List.map_map]
  clear e1
  induction ps generalizing ws with
  | nil => rfl
  | cons p ps ih =>
    cases ws with
    | nil => cases h
    | cons b ws =>
      have h : ps.length = ws.length := by simpa using h
      have := ih ws h
      unfold keptParts at this ⊢
      rw [List.length_cons, List.range_succ_eq_map, List.filter_cons, List.zip_cons_cons, List.filter_cons]
      have e0 : ((fun k => gi (b :: ws) k) ∘ Int.ofNat) 0 = b := rfl
      rw [e0, List.filter_map]
      have e2 : (((fun k => gi (b :: ws) k) ∘ Int.ofNat) ∘ Nat.succ) = ((fun k => gi ws k) ∘ Int.ofNat) := by
        funext k
        show gi (b :: ws) ((k + 1 : Nat) : Int) = gi ws (k : Int)
        rw [gi_nat, gi_nat]; rfl
      have e3 : ((gi (p :: ps) ∘ Int.ofNat) ∘ Nat.succ) = (gi ps ∘ Int.ofNat) := by
        funext k
        show gi (p :: ps) ((k + 1 : Nat) : Int) = gi ps (k : Int)
        rw [gi_nat, gi_nat]; rfl
      rw [e2]
      cases b with
      | true => simp only [if_true, List.map_cons, List.map_map, e3, this]; rfl
      | false => simp only [Bool.false_eq_true, if_false, List.map_map, e3, this]
theorem keptParts_len (ps : List Str) (ws : List Bool) : (keptParts ps ws).length ≤ ps.length := by
  unfold keptParts
  rw [List.length_map]
  refine Nat.le_trans (List.length_filter_le _ _) ?_
  rw [List.length_zip]; omega
theorem emptyWay_len {hollow : List (Str × Tr)} {nr : Int × Rule} {found : List (Rule × Entry)} {way : List Bool} : (emptyWay hollow nr found way).length ≤ found.length + 1 := by
  unfold emptyWay
  split
  · exact dput_len _ _ _
  · omega
section
variable {P : Program} {w : World} {K : PySem.W.Frag} {mg : Str → Option Value} {base : Heap} {cls : Kd → Addr}
theorem ok_emptied (T : Top K mg "emptied" st_emptied ["grammar"]) (M : Blt mg) (X0 : ExA K mg cls) (D1 : D_must_be_grammar P w K mg base) (D2 : D_full_names P w K mg base) (D3 : D_all_make P w K mg base) (D4 : D_empty_trees P w K mg base) (D5 : D_ways_to_leave P w K mg base) (D6 : D_entry_by P w K mg base) (D7 : D_first_ahead P w K mg base) :
    D_emptied P w K mg base cls := T.df fun f fd F => by
  refine fn_exc F sc_emptied (fun _ => rfl) no1 fun g W cdv Aa outer sh H E B hr hE => ?_
  have W : WF g := W
  have S := W.sm
  have hl := W.le
  have h1 := W.pos
  obtain ⟨t40, h40⟩ := M.rules40
  show PSl _ _ [.dat rGram g, .un, .un, .un, .un, .un, .un, .un, .un, .un, .un, .un, .un] _ _
  refine ss_expr (pr_call D1 hr g (par_cons (pr_var 0) par_nil) W) ?_
  refine ss_set 1 (pr_call D2 (hr.mono (by decide)) g (par_cons (pr_var 0) par_nil) S) ?_ sc_emptied.nd
  refine ss_set 2 (pr_ix (pr_ix (pr_l (pr_var 0)) pr_int (ix_L (atI_gi (by decide) (by omega)))) pr_int ix_P0) ?_ sc_emptied.nd
  refine ss_if2 (k := !(allMake g && dhas (fullNames g) (gi g 0).1)) (pb_eq (pb_w (pbw_or (pb_not (pb_val (pr_call D3 (hr.mono (by decide)) g (par_cons (pr_var 0) par_nil) S))) fun _ => pbw_or1 (pb_dni (hu1 hr) (pr_var 2) (pr_d (pr_var 1))))) (by rw [Bool.not_and])) (fun h => ?_) (fun h => ?_)
  · have h : (allMake g && dhas (fullNames g) (gi g 0).1) = false := by rw [Bool.not_eq_true'] at h; exact h
    exact raise_own X0.noTurn (L2N.takes_of rfl rfl rfl rfl) fun σ H' s => hE Kd.noTurn (by unfold emptied; rw [h]; rfl) H' s
  have h : (allMake g && dhas (fullNames g) (gi g 0).1) = true := by rw [Bool.not_eq_false'] at h; exact h
  have hd : emptied g = tellRules (gi g 0).1 (emptyFound g (fullNames g) (emptyTrees g)) := by unfold emptied; rw [h]; rfl
  refine ss_nil ?_
  refine ss_set 3 (pr_call D4 (hr.mono (by decide)) g (par_cons (pr_var 0) par_nil) S) ?_ sc_emptied.nd
  refine ss_ownN 4 rEntry ?_ sc_emptied.nd
  refine ss_for (fun i es => ∃ found a5 a6 a7 a8 a9 a10, found.length ≤ 64 * i ∧ found = ((enumI g).take i).foldl (fun found nr => (ways nr.2.2 (fullNames g) (emptyTrees g)).foldl (emptyWay (emptyTrees g) nr) found) [] ∧
      es = [.dat rGram g, .dat Rp.bl.dct (fullNames g), .dat Rp.str (gi g 0).1, .dat Rp.tr.dct (emptyTrees g), .own (.dcn P w rEntry found), a5, a6, a7, a8, a9, a10, .un, .un])
    (it_enum (pr_var 0) M.enumerate) (tg_pair 5 6 rfl sc_emptied.nd) ⟨[], .un, .un, .un, .un, .un, .un, Nat.zero_le _, rfl, rfl⟩ ?_ ?_ (passes_of rfl) rfl
  · rintro B' i ⟨num, r⟩ _ hi ⟨found, a5, a6, a7, a8, a9, a10, hfl, hf, rfl⟩
    show PSl _ _ [.dat rGram g, .dat Rp.bl.dct (fullNames g), .dat Rp.str (gi g 0).1, .dat Rp.tr.dct (emptyTrees g), .own (.dcn P w rEntry found), .dat Rp.int num, .dat rRule r, a7, a8, a9, a10, .un, .un] _ _
    have hm : r ∈ g := by
      obtain ⟨_, _, j, _, hj⟩ := enumI_mem (List.mem_of_getElem? hi)
      exact List.mem_of_getElem? hj
    have hil := (List.getElem?_eq_some_iff.mp hi).1
    rw [enumI_len] at hil
    have h6 := W.six r hm
    obtain ⟨hw1, hw2⟩ := ways_ok (full := fullNames g) (hollow := emptyTrees g) h6
    refine ss_pair 7 8 (pr_var 6) ?_ rfl sc_emptied.nd (tg_pair 7 8 rfl sc_emptied.nd)
    show PSl _ _ [.dat rGram g, .dat Rp.bl.dct (fullNames g), .dat Rp.str (gi g 0).1, .dat Rp.tr.dct (emptyTrees g), .own (.dcn P w rEntry found), .dat Rp.int num, .dat rRule r, .dat Rp.str r.1, .dat Rp.str.tup r.2, a9, a10, .un, .un] _ _
    refine ss_for (fun j es => ∃ found' a9 a10, found'.length ≤ found.length + j ∧ found' = ((ways r.2 (fullNames g) (emptyTrees g)).take j).foldl (emptyWay (emptyTrees g) (num, r)) found ∧
      es = [.dat rGram g, .dat Rp.bl.dct (fullNames g), .dat Rp.str (gi g 0).1, .dat Rp.tr.dct (emptyTrees g), .own (.dcn P w rEntry found'), .dat Rp.int num, .dat rRule r, .dat Rp.str r.1, .dat Rp.str.tup r.2, a9, a10, .un, .un])
      (it_list (pr_call D5 (hr.mono (by decide)) (r.2, fullNames g, emptyTrees g) (par_cons (pr_var 8) (par_cons (pr_var 1) (par_cons (pr_var 3) par_nil))) h6)) (tg_name 9 sc_emptied.nd) ⟨found, a9, a10, Nat.le_refl _, rfl, rfl⟩ ?_ ?_ (passes_of rfl) rfl
    · rintro B' j way _ hj ⟨found', a9, a10, hfl', hf', rfl⟩
      show PSl _ _ [.dat rGram g, .dat Rp.bl.dct (fullNames g), .dat Rp.str (gi g 0).1, .dat Rp.tr.dct (emptyTrees g), .own (.dcn P w rEntry found'), .dat Rp.int num, .dat rRule r, .dat Rp.str r.1, .dat Rp.str.tup r.2, .dat Rp.bl.lst way, a10, .un, .un] _ _
      have hjl := (List.getElem?_eq_some_iff.mp hj).1
      have hjl : j < (ways r.2 (fullNames g) (emptyTrees g)).length := hjl
      have hway := hw2 way (List.mem_of_getElem? hj)
      have hkl := keptParts_len r.2 way
      have hbig : found'.length ≤ 64 * 40 + 64 := by omega
      have hnext : ((ways r.2 (fullNames g) (emptyTrees g)).take (j + 1)).foldl (emptyWay (emptyTrees g) (num, r)) found = emptyWay (emptyTrees g) (num, r) found' way := by
        rw [take_succ hj, List.foldl_append, hf']; rfl
      refine ss_set 10 (pr_callT (par_cons (pr_l (pr_lc [("k", 12)] (c := fun k => gi way k) (f := gi r.2) (it_range (pr_callB (par_cons (pr_var 8) par_nil) M.len cb_lenT) (by omega) (by omega) M.range) (fun _ _ _ _ _ => tg_name 12 sc_emptied.nd)
        (fun y hy _ _ _ _ _ => pts_1 (pb_val (pr_ix (pr_l (pr_var 9)) (pr_var 12) (ix_L (atI_gi (upTo_mem hy).1 (by rw [← hway.1]; exact (upTo_mem hy).2))))))
        (fun y hy _ _ _ _ _ _ => pr_ix (pr_var 8) (pr_var 12) (ix_T (atI_gi (upTo_mem hy).1 (upTo_mem hy).2))) (by rw [upTo_len]; exact small (by omega)) sc_emptied.nd (keptParts_range r.2 way hway.1))) par_nil) M.tuple cb_tuple) ?_ sc_emptied.nd
      show PSl _ _ [.dat rGram g, .dat Rp.bl.dct (fullNames g), .dat Rp.str (gi g 0).1, .dat Rp.tr.dct (emptyTrees g), .own (.dcn P w rEntry found'), .dat Rp.int num, .dat rRule r, .dat Rp.str r.1, .dat Rp.str.tup r.2, .dat Rp.bl.lst way, .dat Rp.str.tup (keptParts r.2 way), .un, .un] _ _
      refine ss_if2 (k := decide (keptParts r.2 way ≠ []) && (decide (keptParts r.2 way ≠ [r.1]) && !dhas found' (r.1, keptParts r.2 way))) (pb_w (pbw_and (pb_eq (pb_cmp (pr_var 10) (pr_tup Rp.str [] par_nil) (cmp_neQ (n := 1) (ecTup ecStr) (inj_tup inj_str) (Nat.le_of_eq (dep_tupS _)) (hu_n hr (by omega)))) (by rw [← decide_not])) fun _ => pbw_and (pb_eq (pb_cmp (pr_var 10) (pr_tup Rp.str [r.1] (par_cons (pr_var 7) par_nil) (small (by simp))) (cmp_neQ (n := 1) (ecTup ecStr) (inj_tup inj_str) (Nat.le_of_eq (dep_tupS _)) (hu_n hr (by omega)))) (by rw [← decide_not])) fun _ => pbw_and1 (pb_cmp (pr_pair (pr_var 7) (pr_var 10)) (pr_ownN 4) (cmp_niN (hu16 hr))))) (fun c => ?_) (fun c => ?_)
      · refine ss_nput 4 (pr_call D6 (hr.mono (by decide)) (num, r.2, way, emptyTrees g) (par_cons (pr_var 5) (par_cons (pr_var 8) (par_cons (pr_var 9) (par_cons (pr_var 3) par_nil)))) hway) (pr_pair (pr_var 7) (pr_var 10)) ?_ (hu16 hr) ?_
        rotate_left
        · exact smallL (by omega)
        refine ss_nil (ss_nil ⟨emptyWay (emptyTrees g) (num, r) found' way, .dat Rp.bl.lst way, .dat Rp.str.tup (keptParts r.2 way), ?_, hnext.symm, ?_⟩)
        · have := emptyWay_len (hollow := emptyTrees g) (nr := (num, r)) (found := found') (way := way)
          omega
        · unfold emptyWay
          rw [← Bool.and_assoc] at c
          rw [if_pos c]; rfl
      · refine ss_nil (ss_nil ⟨found', .dat Rp.bl.lst way, .dat Rp.str.tup (keptParts r.2 way), by omega, ?_, rfl⟩)
        rw [hnext]
        unfold emptyWay
        rw [← Bool.and_assoc] at c
        rw [if_neg (by rw [c]; exact Bool.false_ne_true)]
    · rintro _ ⟨found', a9, a10, hfl', hf', rfl⟩
      have hfl' : found'.length ≤ found.length + (ways r.2 (fullNames g) (emptyTrees g)).length := hfl'
      refine ss_nil ⟨found', .dat Rp.int num, .dat rRule r, .dat Rp.str r.1, .dat Rp.str.tup r.2, a9, a10, by omega, ?_, rfl⟩
      rw [List.take_length] at hf'
      rw [take_succ hi, List.foldl_append, ← hf, hf']; rfl
  · rintro _ ⟨found, a5, a6, a7, a8, a9, a10, hfl, hf, rfl⟩
    rw [enumI_len] at hfl
    have hf : found = emptyFound g (fullNames g) (emptyTrees g) := by rw [hf, List.take_length]; rfl
    rw [← hf] at hd
    refine ss_set 11 (pr_call (D7 (List Str) Rp.str.tup) (hr.mono (by decide)) ((gi g 0).1, found.map (·.1)) (par_cons (pr_var 2) (par_cons (pr_callT (par_cons (pr_ownN 4) par_nil) M.list (cb_listN rfl)) par_nil)) (by show (found.map _).length ≤ 50000; rw [List.length_map]; omega)) ?_ sc_emptied.nd
    have hrl : (firstAhead (gi g 0).1 (found.map (·.1))).length = found.length := by rw [firstAhead_len, List.length_map]
    refine ss_if2 (k := !decide ((firstAhead (gi g 0).1 (found.map (·.1))).length ≤ 40)) (pb_eq (pb_cmp (pr_callB (par_cons (pr_l (pr_var 11)) par_nil) M.len cb_lenL) (pr_globI h40) cmp_gt) ?_) (fun c => ?_) (fun c => ?_)
    · show decide ((40 : Int) < (((firstAhead (gi g 0).1 (found.map (·.1))).length : Nat) : Int)) = _
      rw [← decide_not, decide_eq_decide]; omega
    · have c : ¬ (firstAhead (gi g 0).1 (found.map (·.1))).length ≤ 40 := by simpa using c
      exact raise_own X0.tooMany (L2N.takes_of rfl rfl rfl rfl) fun σ H' s => hE Kd.tooMany (by rw [hd]; unfold tellRules; rw [if_neg c]) H' s
    · have c : (firstAhead (gi g 0).1 (found.map (·.1))).length ≤ 40 := by simpa using c
      refine ss_nil ?_
      refine ss_ret (pr_pair (pr_var 11) (pr_lcm [("rule", 6)] (fun r => (dget found r).getD default) (it_list (pr_var 11)) (fun _ _ _ _ _ => tg_name 6 sc_emptied.nd) (fun y hy _ _ _ _ _ => pr_ix (pr_ownN 4) (pr_var 6) (ix_N (hu16 hr) (dget_of_has (dhas_mem.mpr (firstAhead_mem.mp hy))))) (show (firstAhead (gi g 0).1 (found.map (·.1))).length ≤ sizeLine from small (by omega)) sc_emptied.nd)) fun G v r => ⟨_, ?_, r⟩
      rw [hd]; unfold tellRules; rw [if_pos c]
/-! lead_emptied -/
mutual
def inE (book : List Entry) : Tr → Bool
  | .leaf _ => true
  | .node n ts => decide (0 ≤ n) && decide (n < book.length) && decide ((gi book n).2.length ≤ 1000000) && ((gi book n).2.all fun pl => match pl with
    | .inl k => decide (0 ≤ k) && decide (k < ts.length)
    | .inr t => !isLeaf t) && inEL book ts
def inEL (book : List Entry) : List Tr → Bool
  | [] => true
  | t :: ts => inE book t && inEL book ts
end
theorem inEL_mem {book : List Entry} : ∀ {ts : List Tr}, inEL book ts = true → ∀ t ∈ ts, inE book t = true
  | [], _, t, h => by cases h
  | x :: ts, h, t, hm => by
    rw [inEL, Bool.and_eq_true] at h
    rcases List.mem_cons.mp hm with e | e
    · rw [e]; exact h.1
    · exact inEL_mem h.2 t e
theorem leadEL_map (book : List Entry) : ∀ ts : List Tr, leadEL book ts = ts.map (leadE book)
  | [] => by rw [leadEL]; rfl
  | t :: ts => by rw [leadEL, leadEL_map book ts]; rfl
theorem gi_map {α β : Type} [Inhabited α] [Inhabited β] (f : α → β) {l : List α} {k : Int} (h0 : 0 ≤ k) (h1 : k < l.length) : gi (l.map f) k = f (gi l k) := by
  have hl : k.toNat < l.length := by omega
  unfold gi
  simp [List.getD, hl]
def plLead (book : List Entry) (ts : List Tr) : Place → Tr := fun pl => match pl with
  | .inl k => gi (leadEL book ts) k
  | .inr t => t
theorem leadE_node (book : List Entry) (n : Int) (ts : List Tr) : leadE book (.node n ts) = .node (gi book n).1 ((gi book n).2.map (plLead book ts)) := by rw [leadE]; rfl
section
variable {X : Cx}
theorem cb_isTupP {pl : Place} (h : ∀ t, pl = .inr t → isLeaf t = false) : Cb X (.builtin "isinstance") [rPlace.at pl, rTy "tuple"] (Rp.bl.at (match pl with | .inl _ => false | .inr _ => true)) := by
  cases pl with
  | inl k => exact cb_isi (t := "int") (k := false) (fun G H v s r => ty_int (x := k) (G := G) r) (by decide +kernel)
  | inr t => exact cb_isi (t := "tuple") (k := true) (fun G H v s r => by
      have := ty_tr (t := t) s r
      rw [h t rfl] at this
      exact this) (by decide +kernel)
end
end
section
variable (P : Program) (w : World) (K : PySem.W.Frag) (mg : Str → Option Value) (base : Heap)
abbrev D_leadE (x : Str) (n : Nat) := Df P w K mg base CX0 x ["book", "tree"] (n + 1) (spI K (ι := List Entry × Tr) (fun i => [.dat rEntry.lst i.1, .dat Rp.tr i.2]) (fun i => depth i.2 ≤ n ∧ inE i.1 i.2 = true) Rp.tr (fun i => leadE i.1 i.2))
end
section
variable {P : Program} {w : World} {K : PySem.W.Frag} {mg : Str → Option Value} {base : Heap} {cls : Kd → Addr}
theorem ok_lead_emptied (T : Top K mg "lead_emptied" st_lead_emptied ["book", "tree"]) (M : Blt mg) : ∀ n, D_leadE P w K mg base "lead_emptied" n := by
  have step : ∀ n, (∀ m, n = m + 1 → D_leadE P w K mg base "lead_emptied" m) → D_leadE P w K mg base "lead_emptied" n := fun n ih => T.df fun f fd F => by
    refine fn_pure F sc_lead_emptied (fun _ => rfl) no2 fun ⟨book, t⟩ ⟨hd, hb⟩ cdv Aa outer sh H E B hr => ?_
    show PSl _ _ [.dat rEntry.lst book, .dat Rp.tr t, .un, .un, .un, .un] _ _
    have hd : depth t ≤ n := hd
    have hb : inE book t = true := hb
    refine ss_if2 (pb_val (pr_callB (par_cons (pr_var 1) (par_cons (pr_ty M.str) par_nil)) M.isinstance cb_isStr)) (fun c => ?_) (fun c => ?_)
    · cases t with
      | node _ _ => cases c
      | leaf s => exact ss_ret (pr_var 1) fun _ _ h => h
    · cases t with
      | leaf _ => cases c
      | node k ts =>
        refine ss_nil ?_
        cases n with
        | zero => simp only [depth] at hd; omega
        | succ n =>
        have D := ih n rfl
        refine ss_lenTr 1 fun hlen => ?_
        refine ss_conv 1 (fun _ _ h => of_node h) ?_
        have hk : ∀ t' ∈ ts, depth t' ≤ n := fun t' ht => by
          have := depth_le ht
          rw [depth] at hd; omega
        rw [inE, Bool.and_eq_true, Bool.and_eq_true, Bool.and_eq_true, Bool.and_eq_true] at hb
        obtain ⟨⟨⟨⟨h1, h2⟩, h3⟩, h4⟩, h5⟩ := hb
        have h1 := of_decide_eq_true h1
        have h2 := of_decide_eq_true h2
        have h3 := of_decide_eq_true h3
        show PSl _ _ [.dat rEntry.lst book, .dat rNode (k, ts), .un, .un, .un, .un] _ _
        refine ss_pair 2 3 (pr_ix (pr_l (pr_var 0)) (pr_ix (pr_var 1) pr_int ix_P0) (ix_L (atI_gi h1 h2))) ?_ rfl sc_lead_emptied.nd (tg_pair 2 3 rfl sc_lead_emptied.nd)
        refine ss_own0 4 Rp.tr ?_ sc_lead_emptied.nd
        show PSl _ _ [.dat rEntry.lst book, .dat rNode (k, ts), .dat Rp.int (gi book k).1, .dat rPlace.tup (gi book k).2, .own (.lst Rp.tr []), .un] _ _
        refine ss_for (fun i es => ∃ a, es = [.dat rEntry.lst book, .dat rNode (k, ts), .dat Rp.int (gi book k).1, .dat rPlace.tup (gi book k).2, .own (.lst Rp.tr (((gi book k).2.take i).map (plLead book ts))), a])
          (it_tup (pr_var 3)) (tg_name 5 sc_lead_emptied.nd) ⟨.un, rfl⟩ ?_ ?_ PassesOwn.never rfl
        · rintro B' i pl _ hi ⟨a, rfl⟩
          show PSl _ _ [.dat rEntry.lst book, .dat rNode (k, ts), .dat Rp.int (gi book k).1, .dat rPlace.tup (gi book k).2, .own (.lst Rp.tr (((gi book k).2.take i).map (plLead book ts))), .dat rPlace pl] _ _
          have hil := (List.getElem?_eq_some_iff.mp hi).1
          have hpl := List.all_eq_true.mp h4 pl (List.mem_of_getElem? hi)
          have hz : (((gi book k).2.take i).map (plLead book ts)).length < sizeLine := by
            have := sizeLine_eq
            rw [List.length_map, List.length_take]; omega
          have hnx : ((gi book k).2.take (i + 1)).map (plLead book ts) = ((gi book k).2.take i).map (plLead book ts) ++ [plLead book ts pl] := by rw [take_succ hi, List.map_append]; rfl
          refine ss_if2 (pb_val (pr_callB (par_cons (pr_var 5) (par_cons (pr_ty M.tuple) par_nil)) M.isinstance (cb_isTupP fun t e => by subst e; simpa using hpl))) (fun c => ?_) (fun c => ?_)
          · cases pl with
            | inl j => cases c
            | inr u => exact ss_append 4 (d := u) (pr_conv (A := rPlace) (a := .inr u) (pr_var 5) fun _ _ h => h) (ss_nil (ss_nil ⟨_, by rw [hnx]; rfl⟩)) hz
          · cases pl with
            | inr u => cases c
            | inl j =>
              simp only [Bool.and_eq_true, decide_eq_true_eq] at hpl
              refine ss_append 4 (d := plLead book ts (.inl j)) (pr_eq (pr_call D hr (book, gi ts j) (par_cons (pr_var 0) (par_cons (pr_ix (pr_ix (pr_var 1) pr_int ix_P1) (pr_conv (A := rPlace) (a := .inl j) (C := Rp.int) (c := j) (pr_var 5) fun _ _ h => h) (ix_T (atI_gi hpl.1 hpl.2))) par_nil)) ⟨hk _ (gi_mem hpl.1 hpl.2), inEL_mem h5 _ (gi_mem hpl.1 hpl.2)⟩) ?_) (ss_nil (ss_nil ⟨_, by rw [hnx]; rfl⟩)) hz
              show leadE book (gi ts j) = gi (leadEL book ts) j
              rw [leadEL_map, gi_map _ hpl.1 hpl.2]
        · rintro _ ⟨a, rfl⟩
          rw [List.take_length]
          refine ss_frzL 4 ?_
          refine ss_ret (pr_pair (pr_var 2) (pr_callT (par_cons (pr_l (pr_var 4)) par_nil) M.tuple cb_tuple)) fun G v h => ?_
          show Rp.tr.rel K G v (leadE book (.node k ts))
          rw [leadE_node]
          exact node_of (by rw [List.length_map]; exact h3) h
  intro n
  induction n with
  | zero => exact step 0 fun m h => by omega
  | succ n ih => exact step (n + 1) fun m h => by have : m = n := by omega
                                                  subst this; exact ih
theorem ok__law_empty_led (T : Top K mg "_law_empty_led" st__law_empty_led ["book", "tree"]) (M : Blt mg) : ∀ n, D_leadE P w K mg base "_law_empty_led" n := by
  have step : ∀ n, (∀ m, n = m + 1 → D_leadE P w K mg base "_law_empty_led" m) → D_leadE P w K mg base "_law_empty_led" n := fun n ih => T.df fun f fd F => by
    refine fn_pure F sc__law_empty_led (fun _ => rfl) no2 fun ⟨book, t⟩ ⟨hd, hb⟩ cdv Aa outer sh H E B hr => ?_
    show PSl _ _ [.dat rEntry.lst book, .dat Rp.tr t, .un, .un, .un, .un] _ _
    have hd : depth t ≤ n := hd
    have hb : inE book t = true := hb
    refine ss_if2 (pb_val (pr_callB (par_cons (pr_var 1) (par_cons (pr_ty M.str) par_nil)) M.isinstance cb_isStr)) (fun c => ?_) (fun c => ?_)
    · cases t with
      | node _ _ => cases c
      | leaf s => exact ss_ret (pr_var 1) fun _ _ h => h
    · cases t with
      | leaf _ => cases c
      | node k ts =>
        refine ss_nil ?_
        cases n with
        | zero => simp only [depth] at hd; omega
        | succ n =>
        have D := ih n rfl
        refine ss_lenTr 1 fun hlen => ?_
        refine ss_conv 1 (fun _ _ h => of_node h) ?_
        have hk : ∀ t' ∈ ts, depth t' ≤ n := fun t' ht => by
          have := depth_le ht
          rw [depth] at hd; omega
        rw [inE, Bool.and_eq_true, Bool.and_eq_true, Bool.and_eq_true, Bool.and_eq_true] at hb
        obtain ⟨⟨⟨⟨h1, h2⟩, h3⟩, h4⟩, h5⟩ := hb
        have h1 := of_decide_eq_true h1
        have h2 := of_decide_eq_true h2
        have h3 := of_decide_eq_true h3
        show PSl _ _ [.dat rEntry.lst book, .dat rNode (k, ts), .un, .un, .un, .un] _ _
        refine ss_pair 2 3 (pr_ix (pr_l (pr_var 0)) (pr_ix (pr_var 1) pr_int ix_P0) (ix_L (atI_gi h1 h2))) ?_ rfl sc__law_empty_led.nd (tg_pair 2 3 rfl sc__law_empty_led.nd)
        refine ss_own0 4 Rp.tr ?_ sc__law_empty_led.nd
        show PSl _ _ [.dat rEntry.lst book, .dat rNode (k, ts), .dat Rp.int (gi book k).1, .dat rPlace.tup (gi book k).2, .own (.lst Rp.tr []), .un] _ _
        refine ss_for (fun i es => ∃ a, es = [.dat rEntry.lst book, .dat rNode (k, ts), .dat Rp.int (gi book k).1, .dat rPlace.tup (gi book k).2, .own (.lst Rp.tr (((gi book k).2.take i).map (plLead book ts))), a])
          (it_tup (pr_var 3)) (tg_name 5 sc__law_empty_led.nd) ⟨.un, rfl⟩ ?_ ?_ PassesOwn.never rfl
        · rintro B' i pl _ hi ⟨a, rfl⟩
          show PSl _ _ [.dat rEntry.lst book, .dat rNode (k, ts), .dat Rp.int (gi book k).1, .dat rPlace.tup (gi book k).2, .own (.lst Rp.tr (((gi book k).2.take i).map (plLead book ts))), .dat rPlace pl] _ _
          have hil := (List.getElem?_eq_some_iff.mp hi).1
          have hpl := List.all_eq_true.mp h4 pl (List.mem_of_getElem? hi)
          have hz : (((gi book k).2.take i).map (plLead book ts)).length < sizeLine := by
            have := sizeLine_eq
            rw [List.length_map, List.length_take]; omega
          have hnx : ((gi book k).2.take (i + 1)).map (plLead book ts) = ((gi book k).2.take i).map (plLead book ts) ++ [plLead book ts pl] := by rw [take_succ hi, List.map_append]; rfl
          refine ss_if2 (pb_val (pr_callB (par_cons (pr_var 5) (par_cons (pr_ty M.tuple) par_nil)) M.isinstance (cb_isTupP fun t e => by subst e; simpa using hpl))) (fun c => ?_) (fun c => ?_)
          · cases pl with
            | inl j => cases c
            | inr u => exact ss_append 4 (d := u) (pr_conv (A := rPlace) (a := .inr u) (pr_var 5) fun _ _ h => h) (ss_nil (ss_nil ⟨_, by rw [hnx]; rfl⟩)) hz
          · cases pl with
            | inr u => cases c
            | inl j =>
              simp only [Bool.and_eq_true, decide_eq_true_eq] at hpl
              refine ss_append 4 (d := plLead book ts (.inl j)) (pr_eq (pr_call D hr (book, gi ts j) (par_cons (pr_var 0) (par_cons (pr_ix (pr_ix (pr_var 1) pr_int ix_P1) (pr_conv (A := rPlace) (a := .inl j) (C := Rp.int) (c := j) (pr_var 5) fun _ _ h => h) (ix_T (atI_gi hpl.1 hpl.2))) par_nil)) ⟨hk _ (gi_mem hpl.1 hpl.2), inEL_mem h5 _ (gi_mem hpl.1 hpl.2)⟩) ?_) (ss_nil (ss_nil ⟨_, by rw [hnx]; rfl⟩)) hz
              show leadE book (gi ts j) = gi (leadEL book ts) j
              rw [leadEL_map, gi_map _ hpl.1 hpl.2]
        · rintro _ ⟨a, rfl⟩
          rw [List.take_length]
          refine ss_frzL 4 ?_
          refine ss_ret (pr_pair (pr_var 2) (pr_callT (par_cons (pr_l (pr_var 4)) par_nil) M.tuple cb_tuple)) fun G v h => ?_
          show Rp.tr.rel K G v (leadE book (.node k ts))
          rw [leadE_node]
          exact node_of (by rw [List.length_map]; exact h3) h
  intro n
  induction n with
  | zero => exact step 0 fun m h => by omega
  | succ n ih => exact step (n + 1) fun m h => by have : m = n := by omega
                                                  subst this; exact ih
end
end Rw

/-! RwY: t[::-1] of a tuple; unary minus; rulewright/lone.py -/
namespace Rw
open PySem PySem.Spec PyProof.Rows L2
section
variable {prog : Program} {w : World} {A : Around} {E : Value → Shared → Prop} {s : Shared}
theorem sliceApplied_back {sl : Addr} {vl vu vs : Value} {n : Nat} {Q : Int × Int × Nat → Shared → Prop} (hs : s.heap.IsSliceOf sl vl vu vs) (pl : IsPart vl none) (pu : IsPart vu none) (ps : IsPart vs (some (-1)))
    (h : Q ((n : Int) - 1, -1, n) s) : wpAny (model prog w) A (Builtin.Slice.sliceApplied (.ref sl) (pure (n : Int))) Q E s := by
  obtain ⟨os, hos, hcs, hds⟩ := id hs
  unfold Builtin.Slice.sliceApplied Builtin.Slice.sliceFields
  refine wpAny_bind (wpAny_bind (wpAny_field hos hds (x := vl) rfl (wpAny_bind (wpAny_field hos hds (x := vu) rfl (wpAny_bind (wpAny_field hos hds (x := vs) rfl (wpAny_pure ?_)))))))
  refine wpAny_bind (HT.slicePart_ ps ?_)
  show wpAny _ _ (if ((-1 : Int) == 0) = true then _ else _) _ _ s
  rw [if_neg (by decide)]
  refine wpAny_bind (HT.slicePart_ pl (wpAny_bind (HT.slicePart_ pu (wpAny_bind (wpAny_pure ?_)))))
  show wpAny _ _ (pure ((n : Int) - 1, (-1 : Int), Builtin.Slice.slicePlaces ((n : Int) - 1) (-1) (-1))) _ _ s
  have e : Builtin.Slice.slicePlaces ((n : Int) - 1) (-1) (-1) = n := by
    unfold Builtin.Slice.slicePlaces
    have h1 : ¬ ((-1 : Int) > 0) := by omega
    have h2 : (- -1 : Int) = 1 := by decide
    simp only [h1, if_false, h2, Int.ediv_one]
    split <;> omega
  rw [e]
  exact wpAny_pure h
theorem fm_congr {α β : Type} {f g : α → Option β} : ∀ {l : List α}, (∀ x ∈ l, f x = g x) → l.filterMap f = l.filterMap g
  | [], _ => rfl
  | a :: l, h => by rw [List.filterMap_cons, List.filterMap_cons, h a (by simp), fm_congr fun x hx => h x (by simp [hx])]
theorem pick_back (xs : Array Value) : ((List.range xs.size).filterMap fun (m : Nat) => xs[((xs.size : Int) - 1 + (m : Int) * -1).toNat]?).toArray = xs.toList.reverse.toArray := by
  congr 1
  have e1 : (List.range xs.size).filterMap (fun (m : Nat) => xs[((xs.size : Int) - 1 + (m : Int) * -1).toNat]?) = ((List.range xs.size).map (fun k => xs.size - 1 - k)).filterMap (xs[·]?) := by
    rw [List.filterMap_map]
    apply fm_congr
    intro m hm
    have := List.mem_range.mp hm
    have e : ((xs.size : Int) - 1 + (m : Int) * -1).toNat = xs.size - 1 - m := by omega
    show _ = xs[xs.size - 1 - m]?
    rw [e]
  rw [e1, PySem.W.krv_range, List.filterMap_reverse, PySem.W.krv_all]
theorem getItem_tuple_back {t sl : Addr} {items : Array Value} {vl vu vs : Value} {Q : Value → Shared → Prop} (ht : IsTup s.heap t items) (hs : s.heap.IsSliceOf sl vl vu vs) (pl : IsPart vl none) (pu : IsPart vu none) (ps : IsPart vs (some (-1)))
    (h : Q (.ref s.heap.objs.size) { s with heap := s.heap.push { cls := .type "tuple", data := .seq items.toList.reverse.toArray } })
    (hsz : items.size ≤ sizeLine) : wpAny (model prog w) A (getItem (.ref t) (.ref sl)) Q E s := by
  have htake : sizeOk (.seq items.toList.reverse.toArray) := by
    show items.toList.reverse.toArray.size ≤ sizeLine
    rw [List.size_toArray, List.length_reverse, Array.length_toList]; exact hsz
  obtain ⟨os, hos, hcs, hds⟩ := id hs
  have hTs : s.TypeIs (.ref sl) "slice" := ⟨os, hos, hcs⟩
  unfold getItem
  try with_reducible refine wpAny_holding ?_
  first | refine wpAny_bind (wpAny_pure ?_) | skip
  refine wpAny_bind (wpAny_sequenceKey ht.typeIs (by decide) ?_)
  refine wpAny_bind (wpAny_callSpecial?_slot (name := Str.ofString "__getitem__") ht.typeIs PyProof.Rows.slot_tuple_getitem
    (wpAny_call_entry PyProof.Rows.slot_tuple_getitem ht.typeIs entry_tuple_getitem ?_ (args_tuple_getitem _ _)))
  show wpAny _ _ (Builtin.Tuple.tupleItemsOf (.ref t) >>= _) _ _ s
  refine wpAny_bind (tupleItemsOf_ ht ?_)
  refine wpAny_bind (wpAny_typeOf hTs ?_)
  rw [if_pos (by decide)]
  refine wpAny_bind (sliceApplied_back hs pl pu ps ?_)
  have hno : ¬ ((((items.size : Int) - 1) == 0 && (-1 : Int) == 1 && items.size == items.size) = true) := by
    intro q
    rw [Bool.and_eq_true, Bool.and_eq_true] at q
    exact absurd (eq_of_beq q.1.2) (by decide)
  show wpAny _ _ (if (((items.size : Int) - 1) == 0 && (-1 : Int) == 1 && items.size == items.size) = true then _ else _) _ _ s
  rw [if_neg hno, pick_back]
  first
    | exact wpAny_bind (m := Builtin.Tuple.tupleExact _) (wpAny_newObj_type (wpAny_pure ⟨_, rfl, wpAny_pure h⟩) htake)
    | exact wpAny_bind (m := Builtin.Tuple.tupleExact _) (wpAny_newObj_type (wpAny_bind (wpAny_pure (wpAny_pure ⟨_, rfl, wpAny_pure h⟩))) htake)
    | exact wpAny_bind (wpAny_bind (m := Builtin.Tuple.tupleExact _) (wpAny_newObj_type (wpAny_pure (wpAny_pure ⟨_, rfl, wpAny_pure h⟩)) htake))
    | exact wpAny_bind (wpAny_bind (m := Builtin.Tuple.tupleExact _) (wpAny_newObj_type (wpAny_pure ⟨_, rfl, wpAny_pure h⟩) htake))
end
section
variable {X : Cx} {B : Bs} {es : List Sl} {e a : Expr} {pos : Pos}
def tRevT (K : PySem.W.Frag) (te : TE) : TE := fun σ H Q => te σ H fun x H1 => ∃ a xs, x = .ref a ∧ SqT K H1 a xs ∧ ∀ p, H1 p = none → Q (.ref p) (upd H1 p (.tup xs.reverse))
theorem pe_revT {te : TE} {k : Nat} {p1 p2 p3 : Pos} (he : PE X e te) : PE X (.Subscript e (.Slice none none (some (.UnaryOp .USub (.Constant (.int 1) k p1) p2)) p3) pos) (tRevT X.K te) := by
  refine ⟨fun pins s σ H Q I h => ?_⟩
  refine Subscript_ (thn (he.run pins s σ H _ I h) fun v s1 ⟨x, H1, I1, r1, q1⟩ => ?_)
  obtain ⟨a, xs, ex, hx, q⟩ := q1
  subst ex
  cases r1
  have hst : PO X (some (.UnaryOp .USub (.Constant (.int 1) k p1) p2)) (tPart (tUn (rU fun i => .int (-i)) (tC (.int 1)))) := po_some (pe_un un_neg pe_int)
  refine wpAny_Slice (thn (po_none.run pins s1 σ H1 (fun o H2 => o = none ∧ H2 = H1) I1 ⟨rfl, rfl⟩) fun vl s2 ⟨l, H2, I2, pl, el, e2⟩ => ?_)
  subst el e2
  refine thn (po_none.run pins s2 σ H2 (fun o H3 => o = none ∧ H3 = H2) I2 ⟨rfl, rfl⟩) fun vu s3 ⟨u, H3, I3, pu, eu, e3⟩ => ?_
  subst eu e3
  refine thn (hst.run pins s3 σ H3 (fun o H4 => o = some (-1) ∧ H4 = H3) I3 ⟨1, rfl, -1, rfl, rfl, rfl⟩) fun vs s4 ⟨o, H4, I4, ps, eo, e4⟩ => ?_
  subst eo e4
  have I5 : Inv X pins σ H4 { s4 with heap := s4.heap.push { cls := .type "slice", data := .fields #[vl, vu, vs] } } := I4.kept (t' := s4.toks) fun b ob q => Heap.get?_push_of_some _ q
  obtain ⟨its, r, ht, hz⟩ := I5.tuple hx
  have hlen := r.length
  show wpAny (model X.prog X.w) X.A (subscriptTail e (.Slice none none (some (.UnaryOp .USub (.Constant (.int 1) k p1) p2)) p3) (.ref a) (.ref s4.heap.objs.size)) (EP X pins σ Q) X.xe { s4 with heap := s4.heap.push { cls := .type "slice", data := .fields #[vl, vu, vs] } }
  refine tail_any (ops := [.ref a, .ref s4.heap.objs.size]) ht.typeIs (PyProof.Rows.slot_tuple_getitem.lookup) ?_ (by with_unfolding_all rfl)
  refine getItem_tuple_back ht (Heap.IsSliceOf.new _ vl vu vs) pl pu ps ?_ (by rw [List.size_toArray]; omega)
  refine ⟨.ref _, _, I5.laid (t' := s4.toks) (o := .tup xs.reverse) (fun b ob q => Heap.get?_push_of_some _ q) (Nat.le_refl _) ?_, rfl, q _ (I5.hok.fresh (Nat.le_refl _))⟩
  exact ⟨by rw [List.length_reverse]; exact hz, its.reverse, r.reverse, _, Heap.get?_push_size _ rfl, rfl, _, rfl⟩
theorem pr_back {α : Type} {A : Rp α} {xs : List α} {k : Nat} {p1 p2 p3 : Pos} (h : PR X B es e (A.tup.at xs)) : PR X B es (.Subscript e (.Slice none none (some (.UnaryOp .USub (.Constant (.int 1) k p1) p2)) p3) pos) (A.tup.at xs.reverse) :=
  pr_of (pe_revT h) fun σ G H Q E q => ⟨G, E, fun v G1 H1 s1 ⟨p, vs, e, h1, r, z⟩ => ⟨p, vs, e, same_t s1.gh h1, fun l hl => q _ _ _ (s1.trans (Stp.new s1.gh hl _)) (tup_new s1.gh hl (prev r) (by rw [List.length_reverse]; exact z))⟩⟩
theorem pr_neg {i : Int} (h : PR X B es e (Rp.int.at i)) : PR X B es (.UnaryOp .USub e pos) (Rp.int.at (-i)) :=
  pr_of (pe_un un_neg h) fun σ G H Q E q => ⟨G, E, fun v G1 H1 s1 r => ⟨i, r, q _ G1 H1 s1 rfl⟩⟩
end
end Rw

/-! RwZ: rulewright/lone.py -/
namespace Rw
open PySem PyProof.Rows L2
/-! chains_from: the laws of its turns -/
def chKeys (g : Gram) (name : Str) : List Str := name :: g.map fun r => gi r.2 0
structure ChI (g : Gram) (name : Str) (st : Chains × List Str) : Prop where
  qk : st.2 = st.1.map (·.1)
  nd : (st.1.map (·.1)).Nodup
  sub : ∀ k ∈ st.1.map (·.1), k ∈ chKeys g name
  len : ∀ kv ∈ st.1, kv.2.length ≤ st.1.length
section
variable {κ α : Type} [DecidableEq κ]
theorem dget_mem {l : List (κ × α)} {k : κ} {v : α} (h : dget l k = some v) : (k, v) ∈ l := by
  unfold dget at h
  obtain ⟨p, hp, rfl⟩ := Option.map_eq_some_iff.mp h
  have h1 := List.find?_some hp
  have h2 := List.mem_of_find?_eq_some hp
  have : p.1 = k := of_decide_eq_true h1
  rw [← this]; exact h2
theorem dput_keys {l : List (κ × α)} {k : κ} {v : α} : (dput l k v).map (·.1) = if dhas l k = true then l.map (·.1) else l.map (·.1) ++ [k] := by
  unfold dput
  split
  · rw [List.map_map]
    apply List.map_congr_left
    intro x hx
    show (if x.1 = k then (x.1, v) else x).1 = x.1
    split <;> rfl
  · rw [List.map_append]; rfl
theorem dhas_dput {l : List (κ × α)} {k j : κ} {v : α} (h : dhas l j = true) : dhas (dput l k v) j = true := by
  rw [dhas_mem] at h ⊢
  rw [dput_keys]
  split
  · exact h
  · exact List.mem_append_left _ h
theorem dput_nd {l : List (κ × α)} {k : κ} {v : α} (h : (l.map (·.1)).Nodup) : ((dput l k v).map (·.1)).Nodup := by
  rw [dput_keys]
  split
  · exact h
  · rename_i c
    rw [List.nodup_append]
    exact ⟨h, by simp, fun a ha b hb => by simp at hb; subst hb; exact fun e => c (dhas_mem.mpr (e ▸ ha))⟩
end
section
variable {g : Gram} {name here : Str} {st : Chains × List Str} {number : Int}
theorem ChI.lenK (h : ChI g name st) : st.1.length ≤ g.length + 1 := by
  have := nodup_le h.nd h.sub
  simpa [chKeys] using this
theorem ChI.init : ChI g name ([(name, [])], [name]) := ⟨rfl, by simp, by simp [chKeys], by simp⟩
theorem ChI.step (h : ChI g name st) (h0 : 0 ≤ number) (h1 : number < g.length) : ChI g name (chStep g here st number) := by
  unfold chStep
  split
  · rename_i c
    have hn : dhas st.1 (gi (gi g number).2 0) = false := by
      simp only [Bool.and_eq_true, Bool.not_eq_true'] at c; exact c.2
    have hnm : gi (gi g number).2 0 ∉ st.1.map (·.1) := fun q => by rw [dhas_mem.mpr q] at hn; cases hn
    have hl : ((dget st.1 here).getD []).length ≤ st.1.length := by
      cases e : dget st.1 here with
      | none => exact Nat.zero_le _
      | some v => exact h.len _ (dget_mem e)
    refine ⟨?_, dput_nd h.nd, fun k hk => ?_, fun kv hkv => ?_⟩
    · show st.2 ++ _ = (dput st.1 _ _).map (·.1)
      rw [dput_new hn, List.map_append, ← h.qk]; rfl
    · have hk : k ∈ (dput st.1 (gi (gi g number).2 0) ((dget st.1 here).getD [] ++ [number])).map (·.1) := hk
      rw [dput_new hn, List.map_append] at hk
      rcases List.mem_append.mp hk with e | e
      · exact h.sub k e
      · simp at e; subst e
        exact List.mem_cons_of_mem _ (List.mem_map.mpr ⟨_, gi_mem h0 h1, rfl⟩)
    · have hkv : kv ∈ dput st.1 (gi (gi g number).2 0) ((dget st.1 here).getD [] ++ [number]) := hkv
      show kv.2.length ≤ (dput st.1 (gi (gi g number).2 0) ((dget st.1 here).getD [] ++ [number])).length
      rw [dput_new hn] at hkv ⊢
      rw [List.length_append, List.length_singleton]
      rcases List.mem_append.mp hkv with e | e
      · have := h.len kv e; omega
      · simp at e; subst e
        show (_ ++ [number]).length ≤ _
        rw [List.length_append, List.length_singleton]; omega
  · exact h
theorem chStep_has {j : Str} (h : dhas st.1 j = true) : dhas (chStep g here st number).1 j = true := by
  unfold chStep
  split
  · exact dhas_dput h
  · exact h
theorem chStep_le : st.2.length ≤ (chStep g here st number).2.length := by
  unfold chStep
  split
  · show st.2.length ≤ (st.2 ++ _).length
    rw [List.length_append]; omega
  · exact Nat.le_refl _
theorem numbersBy_mem {n : Str} {i : Int} (h : i ∈ numbersBy g n) : 0 ≤ i ∧ i < g.length ∧ (gi g i).1 = n := by
  obtain ⟨p, hp, rfl⟩ := List.mem_map.mp h
  obtain ⟨h1, h2⟩ := List.mem_filter.mp hp
  obtain ⟨a, b, k, e, hk⟩ := enumI_mem h1
  refine ⟨a, b, ?_⟩
  have : gi g p.1 = p.2 := by rw [e, gi_nat, List.getD, hk]; rfl
  rw [this]; exact of_decide_eq_true h2
theorem numbersBy_len (g : Gram) (n : Str) : (numbersBy g n).length ≤ g.length := by
  unfold numbersBy
  rw [List.length_map]
  refine Nat.le_trans (List.length_filter_le _ _) ?_
  rw [enumI_len]; exact Nat.le_refl _
theorem ChI.steps : ∀ {ns : List Int} {st : Chains × List Str}, (∀ i ∈ ns, 0 ≤ i ∧ i < g.length) → ChI g name st → ChI g name (ns.foldl (chStep g here) st)
  | [], _, _, h => h
  | i :: ns, st, hi, h => by
    rw [List.foldl_cons]
    exact ChI.steps (fun j hj => hi j (by simp [hj])) (h.step (hi i (by simp)).1 (hi i (by simp)).2)
theorem chLoop_ok : ∀ (n : Nat) (st : Chains × List Str) (k : Nat), ChI g name st → ∃ st', ChI g name st' ∧ chLoop g n st k = st'.1
  | 0, st, k, h => ⟨st, h, rfl⟩
  | n + 1, st, k, h => by
    rw [chLoop]
    split
    · exact ⟨st, h, rfl⟩
    · exact chLoop_ok n _ _ (h.steps fun i hi => ⟨(numbersBy_mem hi).1, (numbersBy_mem hi).2.1⟩)
theorem chains_ok (g : Gram) (name : Str) : (chainsFrom g name).length ≤ g.length + 1 ∧ (∀ kv ∈ chainsFrom g name, kv.2.length ≤ g.length + 1) ∧ ((chainsFrom g name).map (·.1)).Nodup := by
  obtain ⟨st, h, e⟩ := chLoop_ok (name := name) (g.length + 2) ([(name, [])], [name]) 0 (ChI.init (g := g))
  have hl := h.lenK
  unfold chainsFrom
  rw [e]
  exact ⟨hl, fun kv hkv => Nat.le_trans (h.len kv hkv) hl, h.nd⟩
end
/-! straightened: how many rules it finds -/
structure StrI (g : Gram) (found : List (Rule × List Int)) : Prop where
  nd : (found.map (·.1)).Nodup
  sub : ∀ r ∈ found.map (·.1), r ∈ (namesBy g).flatMap fun n => g.map fun r => (n, r.2)
section
variable {g : Gram} {name : Str} {found : List (Rule × List Int)} {chain : List Int} {number : Int}
theorem StrI.step (h : StrI g found) (hn : name ∈ namesBy g) (h0 : 0 ≤ number) (h1 : number < g.length) : StrI g (strNum g name chain found number) := by
  unfold strNum
  split
  · rename_i c
    refine ⟨dput_nd h.nd, fun r hr => ?_⟩
    rw [dput_keys] at hr
    split at hr
    · exact h.sub r hr
    · rcases List.mem_append.mp hr with e | e
      · exact h.sub r e
      · simp at e; subst e
        exact List.mem_flatMap.mpr ⟨name, hn, List.mem_map.mpr ⟨_, gi_mem h0 h1, rfl⟩⟩
  · exact h
theorem StrI.steps (hn : name ∈ namesBy g) : ∀ {ns : List Int} {found : List (Rule × List Int)}, (∀ i ∈ ns, 0 ≤ i ∧ i < g.length) → StrI g found → StrI g (ns.foldl (strNum g name chain) found)
  | [], _, _, h => h
  | i :: ns, found, hi, h => by
    rw [List.foldl_cons]
    exact StrI.steps hn (fun j hj => hi j (by simp [hj])) (h.step hn (hi i (by simp)).1 (hi i (by simp)).2)
theorem StrI.lenK (h : StrI g found) (hl : g.length ≤ 40) : found.length ≤ 1600 := by
  have h1 := nodup_le h.nd h.sub
  rw [List.length_map] at h1
  have h2 : ∀ l : List Str, (l.flatMap fun n => g.map fun r => ((n, r.2) : Rule)).length = l.length * g.length := by
    intro l
    induction l with
    | nil => simp
    | cons a l ih => rw [List.flatMap_cons, List.length_append, List.length_map, ih, List.length_cons, Nat.succ_mul]; omega
  rw [h2] at h1
  have h3 := namesBy_len g
  have : (namesBy g).length * g.length ≤ 40 * 40 := Nat.mul_le_mul (by omega) hl
  omega
end
section
variable (P : Program) (w : World) (K : PySem.W.Frag) (mg : Str → Option Value) (base : Heap) (cls : Kd → Addr)
abbrev D_is_lone := Df P w K mg base CX0 "is_lone" ["rule"] 2 (spI K (ι := Rule) (fun r => [.dat rRule r]) (fun _ => True) Rp.bl isLone)
abbrev D_chains_from := Df P w K mg base CX0 "chains_from" ["grammar", "name"] 3 (spI K (ι := Gram × Str) (fun i => [.dat rGram i.1, .dat Rp.str i.2]) (fun i => Sm i.1) Rp.int.tup.dct (fun i => chainsFrom i.1 i.2))
abbrev D_straightened := Df P w K mg base (L2N.CX P w) "straightened" ["grammar"] 5 (spE K cls (ι := Gram) (fun g => [.dat rGram g]) WF (rGram.pair Rp.int.tup.lst) straightened)
end
section
variable {P : Program} {w : World} {K : PySem.W.Frag} {mg : Str → Option Value} {base : Heap} {cls : Kd → Addr}
theorem isLone_len {r : Rule} (h : isLone r = true) : r.2.length = 1 := by
  unfold isLone at h
  simp only [Bool.and_eq_true, decide_eq_true_eq] at h
  exact h.1
theorem ok_is_lone (T : Top K mg "is_lone" st_is_lone ["rule"]) (M : Blt mg) (D1 : D_is_letter P w K mg base) : D_is_lone P w K mg base := T.df fun f fd F => by
  refine fn_pure F sc_is_lone (fun _ => rfl) no1 fun r _ cdv Aa outer sh H E B hr => ?_
  show PSl _ _ [.dat rRule r] _ _
  have e : decide (((r.2.length : Nat) : Int) = 1) = decide (r.2.length = 1) := by rw [decide_eq_decide]; omega
  refine ss_ret (A := Rp.bl) (d := isLone r) (pr_eq (pr_and (l := !isLetter (gi r.2 0)) (pr_cmp (pr_callB (par_cons (pr_ix (pr_var 0) pr_int ix_P1) par_nil) M.len cb_lenT) pr_int cmp_eqI) fun h => pr_one (pr_not (pr_call D1 hr (gi r.2 0) (par_cons (pr_ix (pr_ix (pr_var 0) pr_int ix_P1) pr_int (ix_T (atI_gi (by decide) ?_))) par_nil) trivial))) ?_) fun _ _ h => h
  · have := of_decide_eq_true h; omega
  · rw [e]; rfl
theorem ok_chains_from (T : Top K mg "chains_from" st_chains_from ["grammar", "name"]) (M : Blt mg) (D1 : D_is_lone P w K mg base) (D2 : D_numbers_by P w K mg base) : D_chains_from P w K mg base := T.df fun f fd F => by
  refine fn_pure F sc_chains_from (fun _ => rfl) no2 fun ⟨g, name⟩ S cdv Aa outer sh H E B hr => ?_
  have S : Sm g := S
  have hl := S.len
  show PSl _ _ [.dat rGram g, .dat Rp.str name, .un, .un, .un, .un, .un, .un] _ _
  refine ss_ownD 2 Rp.int.tup ?_ sc_chains_from.nd
  refine ss_dput 2 (pr_tup Rp.int [] par_nil) (pr_var 1) ?_ (hu1 hr) ?_
  rotate_left
  · exact smallL (Nat.zero_le _)
  refine ss_ownL 3 Rp.str [name] (par_cons (pr_var 1) par_nil) ?_ sc_chains_from.nd (small (by simp))
  refine ss_set 4 pr_int ?_ sc_chains_from.nd
  refine ss_while (n0 := g.length + 2) (fun n es => ∃ (st : Chains × List Str) (k : Nat) (b c d : Sl), ChI g name st ∧ k ≤ st.2.length ∧ n + k = g.length + 2 ∧ chLoop g n st k = chainsFrom g name ∧
    es = [.dat rGram g, .dat Rp.str name, .own (.dct Rp.int.tup st.1), .own (.lst Rp.str st.2), .dat Rp.int (k : Int), b, c, d]) ⟨([(name, [])], [name]), 0, .un, .un, .un, ChI.init, Nat.zero_le _, rfl, rfl, rfl⟩ ?_ PassesOwn.never
  rintro B' n _ ⟨st, k, b, c, d, C0, hk, hnk, hlp, rfl⟩
  have hsl := C0.lenK
  have hq : st.2.length = st.1.length := by rw [C0.qk, List.length_map]
  refine ⟨decide ((k : Int) < ((st.2.length : Nat) : Int)), pb_cmp (pr_var 4) (pr_callB (par_cons (pr_own 3) par_nil) M.len cb_lenL) cmp_lt, fun hf => ?_, fun hf => ?_⟩
  · have hf : k < st.2.length := by have := of_decide_eq_true hf; omega
    have hg : st.2[k]? = some st.2[k] := List.getElem?_eq_getElem hf
    cases n with
    | zero => omega
    | succ n =>
    have hh0 : dhas st.1 st.2[k] = true := dhas_mem.mpr (by rw [← C0.qk]; exact List.getElem_mem hf)
    generalize st.2[k] = here at hg hh0
    rw [chLoop, hg] at hlp
    refine ss_set 5 (pr_ix (pr_own 3) (pr_var 4) (ix_L (atI_nat hg))) ?_ sc_chains_from.nd
    refine ss_set 4 (d := ((k + 1 : Nat) : Int)) (pr_eq (pr_bin (pr_var 4) pr_int bin_add) (by omega)) ?_ sc_chains_from.nd
    show PSl _ _ [.dat rGram g, .dat Rp.str name, .own (.dct Rp.int.tup st.1), .own (.lst Rp.str st.2), .dat Rp.int ((k + 1 : Nat) : Int), .dat Rp.str here, c, d] _ _
    refine ss_for (fun i es => ∃ (s' : Chains × List Str) (c d : Sl), s' = ((numbersBy g here).take i).foldl (chStep g here) st ∧ ChI g name s' ∧ dhas s'.1 here = true ∧ st.2.length ≤ s'.2.length ∧
      es = [.dat rGram g, .dat Rp.str name, .own (.dct Rp.int.tup s'.1), .own (.lst Rp.str s'.2), .dat Rp.int ((k + 1 : Nat) : Int), .dat Rp.str here, c, d])
      (it_list (pr_call D2 (hr.mono (by decide)) (g, here) (par_cons (pr_var 0) (par_cons (pr_var 5) par_nil)) hl)) (tg_name 6 sc_chains_from.nd) ⟨st, c, d, rfl, C0, hh0, Nat.le_refl _, rfl⟩ ?_ ?_ PassesOwn.never rfl
    · rintro B' i num _ hi ⟨s', c, d, hs', C1, hh, hle, rfl⟩
      show PSl _ _ [.dat rGram g, .dat Rp.str name, .own (.dct Rp.int.tup s'.1), .own (.lst Rp.str s'.2), .dat Rp.int ((k + 1 : Nat) : Int), .dat Rp.str here, .dat Rp.int num, d] _ _
      obtain ⟨n0, n1, _⟩ := numbersBy_mem (List.mem_of_getElem? hi)
      have hi : (numbersBy g here)[i]? = some num := hi
      have hnx : ((numbersBy g here).take (i + 1)).foldl (chStep g here) st = chStep g here s' num := by rw [take_succ hi, List.foldl_append, ← hs']; rfl
      have h1l := C1.lenK
      have hq1 : s'.2.length = s'.1.length := by rw [C1.qk, List.length_map]
      have C2 := C1.step (here := here) n0 n1
      have hh2 := chStep_has (g := g) (here := here) (number := num) hh
      have hle2 := chStep_le (g := g) (here := here) (number := num) (st := s')
      refine ss_set 7 (pr_ix (pr_l (pr_var 0)) (pr_var 6) (ix_L (atI_gi n0 n1))) ?_ sc_chains_from.nd
      show PSl _ _ [.dat rGram g, .dat Rp.str name, .own (.dct Rp.int.tup s'.1), .own (.lst Rp.str s'.2), .dat Rp.int ((k + 1 : Nat) : Int), .dat Rp.str here, .dat Rp.int num, .dat rRule (gi g num)] _ _
      refine ss_if2 (k := isLone (gi g num) && !dhas s'.1 (gi (gi g num).2 0)) (pb_w (pbw_and (pb_val (pr_call D1 (hr.mono (by decide)) (gi g num) (par_cons (pr_var 7) par_nil) trivial)) fun h => pbw_and1 (pb_dni (hu1 hr) (pr_ix (pr_ix (pr_var 7) pr_int ix_P1) pr_int (ix_T (atI_gi (by decide) (by rw [isLone_len h]; decide)))) (pr_ownD 2)))) (fun c => ?_) (fun c => ?_)
      · have hlone : isLone (gi g num) = true := (Bool.and_eq_true_iff.mp c).1
        have hd := dget_of_has hh
        have hch : ((dget s'.1 here).getD []).length ≤ s'.1.length := C1.len _ (dget_mem hd)
        refine ss_dput 2 (pr_bin (pr_dget (hu1 hr) (pr_ownD 2) (pr_var 5) hd) (pr_tup Rp.int [num] (par_cons (pr_var 6) par_nil) (small (by simp))) (bin_catT ?_)) (pr_ix (pr_ix (pr_var 7) pr_int ix_P1) pr_int (ix_T (atI_gi (by decide) (by rw [isLone_len hlone]; decide)))) ?_ (hu1 hr) ?_
        · rw [List.length_singleton]
          exact small (show ((dget s'.1 here).getD []).length + 1 ≤ 100000 by omega)
        · refine ss_append 3 (pr_ix (pr_ix (pr_var 7) pr_int ix_P1) pr_int (ix_T (atI_gi (by decide) (by rw [isLone_len hlone]; decide)))) ?_ ?_
          · refine ss_nil (ss_nil ⟨chStep g here s' num, .dat Rp.int num, .dat rRule (gi g num), hnx.symm, C2, hh2, by omega, ?_⟩)
            unfold chStep
            rw [if_pos c]; rfl
          · exact smallL (by omega)
        · exact smallL (by omega)
      · refine ss_nil (ss_nil ⟨s', _, _, ?_, C1, hh, hle, rfl⟩)
        rw [hnx]
        unfold chStep
        rw [if_neg (by rw [c]; exact Bool.false_ne_true)]
    · rintro _ ⟨s', c, d, hs', C1, hh, hle, rfl⟩
      refine ss_nil ⟨n, by omega, s', k + 1, _, _, _, C1, by omega, by omega, ?_, rfl⟩
      rw [← hlp]
      have hs' : s' = (numbersBy g here).foldl (chStep g here) st := by
        rw [hs']
        exact congrArg (fun l => l.foldl (chStep g here) st) (List.take_length (l := numbersBy g here))
      rw [hs']
  · have hf : ¬ (k : Int) < ((st.2.length : Nat) : Int) := of_decide_eq_false hf
    cases n with
    | zero => omega
    | succ n =>
    have hg : st.2[k]? = none := List.getElem?_eq_none (by omega)
    rw [chLoop, hg] at hlp
    have hlp : st.1 = chainsFrom g name := hlp
    refine ss_frzD 2 ?_
    refine ss_ret (pr_var 2) fun G v h => ?_
    rw [hlp] at h
    exact h
theorem ok_straightened (T : Top K mg "straightened" st_straightened ["grammar"]) (M : Blt mg) (X0 : ExA K mg cls) (D1 : D_must_be_grammar P w K mg base) (D3 : D_all_make P w K mg base) (D2 : D_names_by P w K mg base) (D4 : D_chains_from P w K mg base) (D5 : D_numbers_by P w K mg base) (D6 : D_is_lone P w K mg base) (D7 : D_first_ahead P w K mg base) :
    D_straightened P w K mg base cls := T.df fun f fd F => by
  refine fn_exc F sc_straightened (fun _ => rfl) no1 fun g W cdv Aa outer sh H E B hr hE => ?_
  have W : WF g := W
  have S := W.sm
  have hl := W.le
  have h1 := W.pos
  obtain ⟨t40, h40⟩ := M.rules40
  show PSl _ _ [.dat rGram g, .un, .un, .un, .un, .un, .un, .un] _ _
  refine ss_expr (pr_call D1 hr g (par_cons (pr_var 0) par_nil) W) ?_
  refine ss_if2 (pb_not (pb_val (pr_call D3 (hr.mono (by decide)) g (par_cons (pr_var 0) par_nil) S))) (fun h => ?_) (fun h => ?_)
  · have h : allMake g = false := by rw [Bool.not_eq_true'] at h; exact h
    exact raise_own X0.noTurn (L2N.takes_of rfl rfl rfl rfl) fun σ H' s => hE Kd.noTurn (by unfold straightened; rw [h]; rfl) H' s
  have h : allMake g = true := by rw [Bool.not_eq_false'] at h; exact h
  have hd : straightened g = tellRules (gi g 0).1 (strFound g) := by unfold straightened; rw [h]; rfl
  refine ss_nil ?_
  refine ss_ownN 1 Rp.int.tup ?_ sc_straightened.nd
  refine ss_for (fun i es => ∃ (found : List (Rule × List Int)) (a2 a3 a4 a5 a6 : Sl), StrI g found ∧ found = ((namesBy g).take i).foldl (strName g) [] ∧ es = [.dat rGram g, .own (.dcn P w Rp.int.tup found), a2, a3, a4, a5, a6, .un])
    (it_list (pr_call D2 (hr.mono (by decide)) g (par_cons (pr_var 0) par_nil) (by show g.length ≤ 100; omega))) (tg_name 2 sc_straightened.nd) ⟨[], .un, .un, .un, .un, .un, ⟨List.nodup_nil, fun r hr => (by cases hr)⟩, rfl, rfl⟩ ?_ ?_ (passes_of rfl) rfl
  · rintro B' i name _ hi ⟨found, a2, a3, a4, a5, a6, SI, hf, rfl⟩
    show PSl _ _ [.dat rGram g, .own (.dcn P w Rp.int.tup found), .dat Rp.str name, a3, a4, a5, a6, .un] _ _
    have hi : (namesBy g)[i]? = some name := hi
    have hname : name ∈ namesBy g := List.mem_of_getElem? hi
    obtain ⟨hc1, hc2, _⟩ := chains_ok g name
    refine ss_set 3 (pr_call D4 (hr.mono (by decide)) (g, name) (par_cons (pr_var 0) (par_cons (pr_var 2) par_nil)) S) ?_ sc_straightened.nd
    show PSl _ _ [.dat rGram g, .own (.dcn P w Rp.int.tup found), .dat Rp.str name, .dat Rp.int.tup.dct (chainsFrom g name), a4, a5, a6, .un] _ _
    refine ss_for (fun j es => ∃ (found' : List (Rule × List Int)) (a4 a5 a6 : Sl), StrI g found' ∧ found' = (((chainsFrom g name).map (·.1)).take j).foldl (fun found here => (numbersBy g here).foldl (strNum g name ((dget (chainsFrom g name) here).getD [])) found) found ∧
      es = [.dat rGram g, .own (.dcn P w Rp.int.tup found'), .dat Rp.str name, .dat Rp.int.tup.dct (chainsFrom g name), a4, a5, a6, .un])
      (it_list (pr_callT (par_cons (pr_d (pr_var 3)) par_nil) M.list (cb_listD rfl))) (tg_name 4 sc_straightened.nd) ⟨found, _, _, _, SI, rfl, rfl⟩ ?_ ?_ (passes_of rfl) rfl
    · rintro B' j here _ hj ⟨found', a4, a5, a6, SI1, hf1, rfl⟩
      show PSl _ _ [.dat rGram g, .own (.dcn P w Rp.int.tup found'), .dat Rp.str name, .dat Rp.int.tup.dct (chainsFrom g name), .dat Rp.str here, a5, a6, .un] _ _
      have hj : ((chainsFrom g name).map (·.1))[j]? = some here := hj
      have hh : dhas (chainsFrom g name) here = true := dhas_mem.mpr (List.mem_of_getElem? hj)
      have hdg := dget_of_has hh
      have hch : ((dget (chainsFrom g name) here).getD default).length ≤ 41 := Nat.le_trans (hc2 _ (dget_mem hdg)) (by omega)
      refine ss_for (fun m es => ∃ (fd : List (Rule × List Int)) (a5 a6 : Sl), StrI g fd ∧ fd = ((numbersBy g here).take m).foldl (strNum g name ((dget (chainsFrom g name) here).getD [])) found' ∧
        es = [.dat rGram g, .own (.dcn P w Rp.int.tup fd), .dat Rp.str name, .dat Rp.int.tup.dct (chainsFrom g name), .dat Rp.str here, a5, a6, .un])
        (it_list (pr_call D5 (hr.mono (by decide)) (g, here) (par_cons (pr_var 0) (par_cons (pr_var 4) par_nil)) (by show g.length ≤ 100; omega))) (tg_name 5 sc_straightened.nd) ⟨found', _, _, SI1, rfl, rfl⟩ ?_ ?_ (passes_of rfl) rfl
      · rintro B' m num _ hm ⟨fd, a5, a6, SI2, hf2, rfl⟩
        show PSl _ _ [.dat rGram g, .own (.dcn P w Rp.int.tup fd), .dat Rp.str name, .dat Rp.int.tup.dct (chainsFrom g name), .dat Rp.str here, .dat Rp.int num, a6, .un] _ _
        have hm : (numbersBy g here)[m]? = some num := hm
        obtain ⟨n0, n1, _⟩ := numbersBy_mem (List.mem_of_getElem? hm)
        have hfl := SI2.lenK hl
        have hnx : ((numbersBy g here).take (m + 1)).foldl (strNum g name ((dget (chainsFrom g name) here).getD [])) found' = strNum g name ((dget (chainsFrom g name) here).getD []) fd num := by rw [take_succ hm, List.foldl_append, ← hf2]; rfl
        have SI3 := SI2.step (chain := (dget (chainsFrom g name) here).getD []) hname n0 n1
        refine ss_set 6 (pr_pair (pr_var 2) (pr_ix (pr_ix (pr_l (pr_var 0)) (pr_var 5) (ix_L (atI_gi n0 n1))) pr_int ix_P1)) ?_ sc_straightened.nd
        show PSl _ _ [.dat rGram g, .own (.dcn P w Rp.int.tup fd), .dat Rp.str name, .dat Rp.int.tup.dct (chainsFrom g name), .dat Rp.str here, .dat Rp.int num, .dat rRule (name, (gi g num).2), .un] _ _
        refine ss_if2 (k := !isLone (name, (gi g num).2) && !dhas fd (name, (gi g num).2)) (pb_w (pbw_and (pb_not (pb_val (pr_call D6 (hr.mono (by decide)) (name, (gi g num).2) (par_cons (pr_var 6) par_nil) trivial))) fun h => pbw_and1 (pb_cmp (pr_var 6) (pr_ownN 1) (cmp_niN (hu16 hr))))) (fun c => ?_) (fun c => ?_)
        · refine ss_nput 1 (pr_bin (pr_dget (hu1 hr) (pr_d (pr_var 3)) (pr_var 4) hdg) (pr_tup Rp.int [num] (par_cons (pr_var 5) par_nil) (small (by simp))) (bin_catT ?_)) (pr_var 6) ?_ (hu16 hr) ?_
          · rw [List.length_singleton]; exact small (by omega)
          · refine ss_nil (ss_nil ⟨strNum g name ((dget (chainsFrom g name) here).getD []) fd num, .dat Rp.int num, .dat rRule (name, (gi g num).2), SI3, hnx.symm, ?_⟩)
            unfold strNum
            rw [if_pos c]; rfl
          · exact smallL (by omega)
        · refine ss_nil (ss_nil ⟨fd, _, _, SI2, ?_, rfl⟩)
          rw [hnx]
          unfold strNum
          rw [if_neg (by rw [c]; exact Bool.false_ne_true)]
      · rintro _ ⟨fd, a5, a6, SI2, hf2, rfl⟩
        refine ss_nil ⟨fd, _, _, _, SI2, ?_, rfl⟩
        have hf2 : fd = (numbersBy g here).foldl (strNum g name ((dget (chainsFrom g name) here).getD [])) found' := by
          rw [hf2]
          exact congrArg (fun l => l.foldl (strNum g name ((dget (chainsFrom g name) here).getD [])) found') (List.take_length (l := numbersBy g here))
        rw [take_succ hj, List.foldl_append, ← hf1, hf2]; rfl
    · rintro _ ⟨found', a4, a5, a6, SI1, hf1, rfl⟩
      refine ss_nil ⟨found', _, _, _, _, _, SI1, ?_, rfl⟩
      have hf1 : found' = strName g found name := by
        rw [hf1]
        exact congrArg (fun l => l.foldl (fun found here => (numbersBy g here).foldl (strNum g name ((dget (chainsFrom g name) here).getD [])) found) found) (List.take_length (l := (chainsFrom g name).map (·.1)))
      rw [take_succ hi, List.foldl_append, ← hf, hf1]; rfl
  · rintro _ ⟨found, a2, a3, a4, a5, a6, SI, hf, rfl⟩
    have hfl := SI.lenK hl
    have hf : found = strFound g := by
      rw [hf]
      exact congrArg (fun l => l.foldl (strName g) []) (List.take_length (l := namesBy g))
    rw [← hf] at hd
    refine ss_set 7 (pr_call (D7 (List Str) Rp.str.tup) (hr.mono (by decide)) ((gi g 0).1, found.map (·.1)) (par_cons (pr_ix (pr_ix (pr_l (pr_var 0)) pr_int (ix_L (atI_gi (by decide) (by omega)))) pr_int ix_P0) (par_cons (pr_callT (par_cons (pr_ownN 1) par_nil) M.list (cb_listN rfl)) par_nil)) (by show (found.map _).length ≤ 50000; rw [List.length_map]; omega)) ?_ sc_straightened.nd
    have hrl : (firstAhead (gi g 0).1 (found.map (·.1))).length = found.length := by rw [firstAhead_len, List.length_map]
    refine ss_if2 (k := !decide ((firstAhead (gi g 0).1 (found.map (·.1))).length ≤ 40)) (pb_eq (pb_cmp (pr_callB (par_cons (pr_l (pr_var 7)) par_nil) M.len cb_lenL) (pr_globI h40) cmp_gt) ?_) (fun c => ?_) (fun c => ?_)
    · show decide ((40 : Int) < (((firstAhead (gi g 0).1 (found.map (·.1))).length : Nat) : Int)) = _
      rw [← decide_not, decide_eq_decide]; omega
    · have c : ¬ (firstAhead (gi g 0).1 (found.map (·.1))).length ≤ 40 := by simpa using c
      exact raise_own X0.tooMany (L2N.takes_of rfl rfl rfl rfl) fun σ H' s => hE Kd.tooMany (by rw [hd]; unfold tellRules; rw [if_neg c]) H' s
    · have c : (firstAhead (gi g 0).1 (found.map (·.1))).length ≤ 40 := by simpa using c
      refine ss_nil ?_
      refine ss_ret (pr_pair (pr_var 7) (pr_lcm [("rule", 6)] (fun r => (dget found r).getD default) (it_list (pr_var 7)) (fun _ _ _ _ _ => tg_name 6 sc_straightened.nd) (fun y hy _ _ _ _ _ => pr_ix (pr_ownN 1) (pr_var 6) (ix_N (hu16 hr) (dget_of_has (dhas_mem.mpr (firstAhead_mem.mp hy))))) (show (firstAhead (gi g 0).1 (found.map (·.1))).length ≤ sizeLine from small (by omega)) sc_straightened.nd)) fun G v r => ⟨_, ?_, r⟩
      rw [hd]; unfold tellRules; rw [if_pos c]
end
end Rw

/-! RwS: lead_straightened, _law_lone_led -/
namespace Rw
open PySem PyProof.Rows L2
mutual
def inS (book : List (List Int)) : Tr → Bool
  | .leaf _ => true
  | .node n ts => decide (0 ≤ n) && decide (n < book.length) && decide (gi book n ≠ []) && inSL book ts
def inSL (book : List (List Int)) : List Tr → Bool
  | [] => true
  | t :: ts => inS book t && inSL book ts
end
theorem inSL_mem {book : List (List Int)} : ∀ {ts : List Tr}, inSL book ts = true → ∀ t ∈ ts, inS book t = true
  | [], _, t, h => by cases h
  | x :: ts, h, t, hm => by
    rw [inSL, Bool.and_eq_true] at h
    rcases List.mem_cons.mp hm with e | e
    · rw [e]; exact h.1
    · exact inSL_mem h.2 t e
theorem leadSL_map (book : List (List Int)) : ∀ ts : List Tr, leadSL book ts = ts.map (leadS book)
  | [] => by rw [leadSL]; rfl
  | t :: ts => by rw [leadSL, leadSL_map book ts]; rfl
def upS : List Int → Tr → Tr := fun ks t => ks.foldl (fun t k => .node k [t]) t
theorem leadS_node (book : List (List Int)) (n : Int) (ts : List Tr) : leadS book (.node n ts) = upS (gi book n).dropLast.reverse (.node (gi (gi book n).reverse 0) (leadSL book ts)) := by
  rw [leadS]; unfold upS; rw [List.foldl_reverse]
theorem last_ix {xs : List Int} (h : xs ≠ []) : atI xs (-1) = some (gi xs.reverse 0) := by
  have hl : 0 < xs.length := List.length_pos_iff.mpr h
  have e : ixN xs.length (-1) = some (xs.length - 1) := by
    unfold ixN
    rw [if_neg (by decide), if_pos (by omega)]
    congr 1
    omega
  unfold atI gi
  rw [e, List.getD, Int.toNat_zero, List.getElem?_reverse hl]
  show xs[xs.length - 1]? = _
  rw [show xs.length - 1 - 0 = xs.length - 1 by omega, List.getElem?_eq_getElem (show xs.length - 1 < xs.length by omega)]
  rfl
theorem dropLast_cut (xs : List Int) : xs.dropLast = (xs.drop (HT.sIx xs.length 0 none)).take (HT.sIx xs.length xs.length (some (-1)) - HT.sIx xs.length 0 none) := by
  rw [List.dropLast_eq_take]
  have e1 : HT.sIx xs.length 0 none = 0 := rfl
  have e2 : HT.sIx xs.length xs.length (some (-1)) = xs.length - 1 := by
    unfold HT.sIx
    simp only [show (-1 : Int) < 0 by decide, if_true]
    omega
  rw [e1, e2]; rfl
section
variable (P : Program) (w : World) (K : PySem.W.Frag) (mg : Str → Option Value) (base : Heap)
abbrev D_leadS (x : Str) (n : Nat) := Df P w K mg base CX0 x ["book", "tree"] (n + 1) (spI K (ι := List (List Int) × Tr) (fun i => [.dat Rp.int.tup.lst i.1, .dat Rp.tr i.2]) (fun i => depth i.2 ≤ n ∧ inS i.1 i.2 = true) Rp.tr (fun i => leadS i.1 i.2))
end
section
variable {P : Program} {w : World} {K : PySem.W.Frag} {mg : Str → Option Value} {base : Heap} {cls : Kd → Addr}
theorem ok_lead_straightened (T : Top K mg "lead_straightened" st_lead_straightened ["book", "tree"]) (M : Blt mg) : ∀ n, D_leadS P w K mg base "lead_straightened" n := by
  have step : ∀ n, (∀ m, n = m + 1 → D_leadS P w K mg base "lead_straightened" m) → D_leadS P w K mg base "lead_straightened" n := fun n ih => T.df fun f fd F => by
    refine fn_pure F sc_lead_straightened (fun _ => rfl) no2 fun ⟨book, t⟩ ⟨hd, hb⟩ cdv Aa outer sh H E B hr => ?_
    show PSl _ _ [.dat Rp.int.tup.lst book, .dat Rp.tr t, .un, .un, .un, .un] _ _
    have hd : depth t ≤ n := hd
    have hb : inS book t = true := hb
    refine ss_if2 (pb_val (pr_callB (par_cons (pr_var 1) (par_cons (pr_ty M.str) par_nil)) M.isinstance cb_isStr)) (fun c => ?_) (fun c => ?_)
    · cases t with
      | node _ _ => cases c
      | leaf s => exact ss_ret (pr_var 1) fun _ _ h => h
    · cases t with
      | leaf _ => cases c
      | node k ts =>
        refine ss_nil ?_
        cases n with
        | zero => simp only [depth] at hd; omega
        | succ n =>
        have D := ih n rfl
        refine ss_lenTr 1 fun hlen => ?_
        refine ss_conv 1 (fun _ _ h => of_node h) ?_
        have hk : ∀ t' ∈ ts, depth t' ≤ n := fun t' ht => by
          have := depth_le ht
          rw [depth] at hd; omega
        rw [inS, Bool.and_eq_true, Bool.and_eq_true, Bool.and_eq_true] at hb
        obtain ⟨⟨⟨h1, h2⟩, h3⟩, h5⟩ := hb
        have h1 := of_decide_eq_true h1
        have h2 := of_decide_eq_true h2
        have h3 := of_decide_eq_true h3
        show PSl _ _ [.dat Rp.int.tup.lst book, .dat rNode (k, ts), .un, .un, .un, .un] _ _
        refine ss_set 2 (pr_ix (pr_l (pr_var 0)) (pr_ix (pr_var 1) pr_int ix_P0) (ix_L (atI_gi h1 h2))) ?_ sc_lead_straightened.nd
        refine ss_set 3 (A := Rp.tr) (d := .node (gi (gi book k).reverse 0) (leadSL book ts)) (pr_conv (pr_pair (pr_ix (pr_var 2) (pr_neg pr_int) (ix_T (last_ix h3))) (pr_callT (par_cons (pr_l (pr_lcm [("one", 5)] (leadS book) (it_tup (pr_ix (pr_var 1) pr_int ix_P1)) (fun _ _ _ _ _ => tg_name 5 sc_lead_straightened.nd)
          (fun y hy _ _ _ _ _ => pr_call D hr (book, y) (par_cons (pr_var 0) (par_cons (pr_var 5) par_nil)) ⟨hk y hy, inSL_mem h5 y hy⟩) (len6 hlen) sc_lead_straightened.nd)) par_nil) M.tuple cb_tuple)) fun G v h => ?_) ?_ sc_lead_straightened.nd
        · rw [leadSL_map]; exact node_of (by rw [List.length_map]; exact hlen) h
        show PSl _ _ [.dat Rp.int.tup.lst book, .dat rNode (k, ts), .dat Rp.int.tup (gi book k), .dat Rp.tr (.node (gi (gi book k).reverse 0) (leadSL book ts)), .un, .un] _ _
        refine ss_for (fun i es => ∃ a, es = [.dat Rp.int.tup.lst book, .dat rNode (k, ts), .dat Rp.int.tup (gi book k), .dat Rp.tr (upS ((gi book k).dropLast.reverse.take i) (.node (gi (gi book k).reverse 0) (leadSL book ts))), a, .un])
          (it_revT (pr_slice (pr_var 2) po_n (po_s (pr_neg pr_int)) (dropLast_cut _)) M.reversed) (tg_name 4 sc_lead_straightened.nd) ⟨.un, rfl⟩ ?_ ?_ PassesOwn.never rfl
        · rintro B' i num _ hi ⟨a, rfl⟩
          show PSl _ _ [.dat Rp.int.tup.lst book, .dat rNode (k, ts), .dat Rp.int.tup (gi book k), .dat Rp.tr (upS ((gi book k).dropLast.reverse.take i) (.node (gi (gi book k).reverse 0) (leadSL book ts))), .dat Rp.int num, .un] _ _
          refine ss_set 3 (A := Rp.tr) (d := .node num [upS ((gi book k).dropLast.reverse.take i) (.node (gi (gi book k).reverse 0) (leadSL book ts))]) (pr_conv (pr_pair (pr_var 4) (pr_tup Rp.tr [_] (par_cons (pr_var 3) par_nil) (small (by simp)))) fun G v h => node_of (by simp) h) (ss_nil ⟨.dat Rp.int num, ?_⟩) sc_lead_straightened.nd
          rw [take_succ hi]
          unfold upS
          rw [List.foldl_append]; rfl
        · rintro _ ⟨a, rfl⟩
          rw [List.take_length]
          refine ss_ret (pr_var 3) fun G v h => ?_
          show Rp.tr.rel K G v (leadS book (.node k ts))
          rw [leadS_node]
          exact h
  intro n
  induction n with
  | zero => exact step 0 fun m h => by omega
  | succ n ih => exact step (n + 1) fun m h => by have : m = n := by omega
                                                  subst this; exact ih
theorem ok__law_lone_led (T : Top K mg "_law_lone_led" st__law_lone_led ["book", "tree"]) (M : Blt mg) : ∀ n, D_leadS P w K mg base "_law_lone_led" n := by
  have step : ∀ n, (∀ m, n = m + 1 → D_leadS P w K mg base "_law_lone_led" m) → D_leadS P w K mg base "_law_lone_led" n := fun n ih => T.df fun f fd F => by
    refine fn_pure F sc__law_lone_led (fun _ => rfl) no2 fun ⟨book, t⟩ ⟨hd, hb⟩ cdv Aa outer sh H E B hr => ?_
    show PSl _ _ [.dat Rp.int.tup.lst book, .dat Rp.tr t, .un, .un, .un, .un] _ _
    have hd : depth t ≤ n := hd
    have hb : inS book t = true := hb
    refine ss_if2 (pb_val (pr_callB (par_cons (pr_var 1) (par_cons (pr_ty M.str) par_nil)) M.isinstance cb_isStr)) (fun c => ?_) (fun c => ?_)
    · cases t with
      | node _ _ => cases c
      | leaf s => exact ss_ret (pr_var 1) fun _ _ h => h
    · cases t with
      | leaf _ => cases c
      | node k ts =>
        refine ss_nil ?_
        cases n with
        | zero => simp only [depth] at hd; omega
        | succ n =>
        have D := ih n rfl
        refine ss_lenTr 1 fun hlen => ?_
        refine ss_conv 1 (fun _ _ h => of_node h) ?_
        have hk : ∀ t' ∈ ts, depth t' ≤ n := fun t' ht => by
          have := depth_le ht
          rw [depth] at hd; omega
        rw [inS, Bool.and_eq_true, Bool.and_eq_true, Bool.and_eq_true] at hb
        obtain ⟨⟨⟨h1, h2⟩, h3⟩, h5⟩ := hb
        have h1 := of_decide_eq_true h1
        have h2 := of_decide_eq_true h2
        have h3 := of_decide_eq_true h3
        show PSl _ _ [.dat Rp.int.tup.lst book, .dat rNode (k, ts), .un, .un, .un, .un] _ _
        refine ss_set 2 (pr_ix (pr_l (pr_var 0)) (pr_ix (pr_var 1) pr_int ix_P0) (ix_L (atI_gi h1 h2))) ?_ sc__law_lone_led.nd
        refine ss_set 3 (A := Rp.tr) (d := .node (gi (gi book k).reverse 0) (leadSL book ts)) (pr_conv (pr_pair (pr_ix (pr_var 2) (pr_neg pr_int) (ix_T (last_ix h3))) (pr_callT (par_cons (pr_l (pr_lcm [("one", 5)] (leadS book) (it_tup (pr_ix (pr_var 1) pr_int ix_P1)) (fun _ _ _ _ _ => tg_name 5 sc__law_lone_led.nd)
          (fun y hy _ _ _ _ _ => pr_call D hr (book, y) (par_cons (pr_var 0) (par_cons (pr_var 5) par_nil)) ⟨hk y hy, inSL_mem h5 y hy⟩) (len6 hlen) sc__law_lone_led.nd)) par_nil) M.tuple cb_tuple)) fun G v h => ?_) ?_ sc__law_lone_led.nd
        · rw [leadSL_map]; exact node_of (by rw [List.length_map]; exact hlen) h
        show PSl _ _ [.dat Rp.int.tup.lst book, .dat rNode (k, ts), .dat Rp.int.tup (gi book k), .dat Rp.tr (.node (gi (gi book k).reverse 0) (leadSL book ts)), .un, .un] _ _
        refine ss_for (fun i es => ∃ a, es = [.dat Rp.int.tup.lst book, .dat rNode (k, ts), .dat Rp.int.tup (gi book k), .dat Rp.tr (upS ((gi book k).dropLast.reverse.take i) (.node (gi (gi book k).reverse 0) (leadSL book ts))), a, .un])
          (it_tup (pr_back (pr_slice (pr_var 2) po_n (po_s (pr_neg pr_int)) (dropLast_cut _)))) (tg_name 4 sc__law_lone_led.nd) ⟨.un, rfl⟩ ?_ ?_ PassesOwn.never rfl
        · rintro B' i num _ hi ⟨a, rfl⟩
          show PSl _ _ [.dat Rp.int.tup.lst book, .dat rNode (k, ts), .dat Rp.int.tup (gi book k), .dat Rp.tr (upS ((gi book k).dropLast.reverse.take i) (.node (gi (gi book k).reverse 0) (leadSL book ts))), .dat Rp.int num, .un] _ _
          refine ss_set 3 (A := Rp.tr) (d := .node num [upS ((gi book k).dropLast.reverse.take i) (.node (gi (gi book k).reverse 0) (leadSL book ts))]) (pr_conv (pr_pair (pr_var 4) (pr_tup Rp.tr [_] (par_cons (pr_var 3) par_nil) (small (by simp)))) fun G v h => node_of (by simp) h) (ss_nil ⟨.dat Rp.int num, ?_⟩) sc__law_lone_led.nd
          rw [take_succ hi]
          unfold upS
          rw [List.foldl_append]; rfl
        · rintro _ ⟨a, rfl⟩
          rw [List.take_length]
          refine ss_ret (pr_var 3) fun G v h => ?_
          show Rp.tr.rel K G v (leadS book (.node k ts))
          rw [leadS_node]
          exact h
  intro n
  induction n with
  | zero => exact step 0 fun m h => by omega
  | succ n ih => exact step (n + 1) fun m h => by have : m = n := by omega
                                                  subst this; exact ih
end
end Rw

/-! RwO: calls that hand back a list that is still to change; a list of one count that calls change -/
namespace Rw
open PySem PyProof.Rows L2
/-- the value is a list that nothing else holds -/
def tN {α : Type} (K : PySem.W.Frag) (B : Bs) (es : List Sl) (A : Rp α) (xs : List α) : TE := fun σ H Q => ∃ G, EnvA K B es σ G H ∧ ∀ p vs G' H', Stp G H G' H' → H p = none → G' p = none → H' p = some (.lst vs) → Paired (A.rel K G') vs xs → xs.length ≤ sizeLine → Q (.ref p) H'
abbrev PN {α : Type} (X : Cx) (B : Bs) (es : List Sl) (e : Expr) (A : Rp α) (xs : List α) : Prop := PE X e (tN X.K B es A xs)
section
variable {X : Cx} {B : Bs} {es : List Sl} {tg iter elt : Expr} {ifs : List Expr} {scope : Scope} {pos : Pos} {α β : Type} {A : Rp α} {C : Rp β} {ys : List α} {own : List (Str × Nat)}
/-- the reading of a comprehension whose list is still to change -/
theorem lc_readN {wi : TI} {g : TG} {tt : TT} {te : TE} {u : List Sl → α → List Sl} {vs : List Nat} {c : α → Bool} {f : α → β} {zs : List β} (hz : (ys.filter c).map f = zs) (hlen : ys.length ≤ sizeLine)
    (hwi : ∀ σ H R, tPI X.K B es A ys σ H R → wi σ H R) (hg : ∀ v σ H Q, tTgt X.K A u vs v σ H Q → g v σ H Q)
    (ht : ∀ y σ H Q, y ∈ ys → tGT X.K B (u (wipeE es vs) y) (c y) σ H Q → tt σ H Q) (he : ∀ y σ H Q, y ∈ ys → c y = true → tG X.K B (u (wipeE es vs) y) (C.at (f y)) σ H Q → te σ H Q) :
    ∀ σ H Q, tN X.K B es C zs σ H Q → tLc wi g tt te vs σ H Q := by
  subst hz
  rintro σ H Q ⟨G, E, q⟩
  refine hwi σ H _ ⟨G, E, fun J G1 H1 s1 aw D hD => ?_⟩
  have E1 := E.step s1
  refine ⟨fun i m H => m = ys.length - i ∧ i ≤ ys.length ∧ ∃ Gi acc, Stp G1 H1 Gi H ∧ Gi D = none ∧ H D = some (.lst acc) ∧ Paired (C.rel X.K Gi) acc (((ys.take i).filter c).map f),
    ⟨ys.length, by simp, Nat.zero_le _, G1, [], Stp.fresh s1.gh hD _, s1.gh.free hD, upd_same, .nil⟩, ?_⟩
  rintro i m Hi ⟨rfl, hi, Gi, acc, si, gD, hDi, ra⟩
  have lacc : acc.length ≤ i := by
    rw [ra.length, List.length_map]
    refine Nat.le_trans (List.length_filter_le _ _) ?_
    rw [List.length_take]; omega
  by_cases hlt : i < ys.length
  · refine .inr ⟨aw.go i Gi Hi si.gg si.gh hlt, fun H' => i + 1 ≤ ys.length ∧ ∃ Gi acc, Stp G1 H1 Gi H' ∧ Gi D = none ∧ H' D = some (.lst acc) ∧ Paired (C.rel X.K Gi) acc (((ys.take (i + 1)).filter c).map f), fun H' p => ⟨ys.length - (i + 1), by omega, rfl, p.1, p.2⟩, fun x H' yl => ?_⟩
    obtain ⟨G2, y, hy, s2, ry⟩ := aw.yld i Gi Hi x H' si.gg si.gh hlt yl
    have hm : y ∈ ys := List.mem_of_getElem? hy
    have hx := take_filter (c := c) hy
    have E2 := (E1.step (si.trans s2)).wipe vs
    have hD2 := s2.hh _ _ hDi
    have keep : ∀ {G3 H3 : Hp}, Stp Gi Hi G3 H3 → G3 D = none := fun {G3 H3} s3 => by
      cases e : G3 D with
      | none => rfl
      | some o =>
        rcases s3.nw D o e with z | z
        · rw [gD] at z; cases z
        · rw [hDi] at z; cases z
    refine hg _ _ _ _ ⟨B, wipeE es vs, y, G2, E2, ry, fun σ2 hw E3 => ⟨hw.trans (wipe_wipe σ vs), ht y _ _ _ hm ⟨G2, E3, fun G3 H3 s3 => ?_⟩⟩⟩
    cases hc : c y with
    | false =>
      refine iteF ?_
      rw [hc] at hx
      refine ⟨hlt, G3, acc, si.trans (s2.trans s3), keep (s2.trans s3), s3.hh _ _ hD2, ?_⟩
      have hx : (ys.take (i + 1)).filter c = (ys.take i).filter c := by simpa using hx
      rw [hx]
      exact pmono (fun _ _ => C.mono (s2.gg.trans s3.gg)) ra
    | true =>
      refine iteT ?_
      refine he y _ _ _ hm hc ⟨G3, E3.step s3, fun v G4 H4 s4 r4 => ⟨acc, s4.hh _ _ (s3.hh _ _ hD2), Nat.lt_of_le_of_lt lacc (Nat.lt_of_lt_of_le hlt hlen), hlt, G4, acc ++ [v], ?_, keep ((s2.trans s3).trans s4), upd_same, ?_⟩⟩
      · have s := si.trans ((s2.trans s3).trans s4)
        exact ⟨s.gg, same_updL _ s.gh (keep ((s2.trans s3).trans s4)), same_updL _ s.hh hD, s.nw⟩
      · rw [hc] at hx
        have hx : (ys.take (i + 1)).filter c = (ys.take i).filter c ++ [y] := by simpa using hx
        rw [hx, List.map_append]
        exact pappend (pmono (fun _ _ => C.mono (s2.gg.trans (s3.gg.trans s4.gg))) ra) (.cons r4 .nil)
  · have ei : i = ys.length := by omega
    subst ei
    refine .inl ⟨aw.stop Gi Hi si.gg si.gh, ?_⟩
    rw [List.take_length] at ra
    have zl : ((ys.filter c).map f).length ≤ sizeLine := by rw [← ra.length]; exact Nat.le_trans lacc hlen
    exact q D acc Gi Hi (s1.trans si) (s1.hh.free hD) gD hDi ra zl
theorem pn_lc (own : List (Str × Nat)) {u : List Sl → α → List Sl} {c : α → Bool} {f : α → β} {zs : List β} (hi : PIt X B es tg iter A ys)
    (hg : ∀ (s : Shared) (H : Hp) (L : Addr) (cl : List (Str × Addr)) (fp : List Addr), PG (X.blk s H scope (compEnvC scope cl L X.env) fp) tg (tTgt X.K A u (own.map (·.2))))
    (ht : ∀ y, y ∈ ys → ∀ (s : Shared) (H : Hp) (L : Addr) (cl : List (Str × Addr)) (fp : List Addr), PTs (X.blk s H scope (compEnvC scope cl L X.env) fp) ifs (tGT X.K B (u (wipeE es (own.map (·.2))) y) (c y)))
    (he : ∀ y, y ∈ ys → c y = true → ∀ (s : Shared) (H : Hp) (L : Addr) (cl : List (Str × Addr)) (fp : List Addr), PR (X.blk s H scope (compEnvC scope cl L X.env) fp) B (u (wipeE es (own.map (·.2))) y) elt (C.at (f y)))
    (hlen : ys.length ≤ sizeLine) (hN : X.N.Nodup) (hz : (ys.filter c).map f = zs := by rfl) (hc : X.calm = true := by rfl) (ok : blkC X.N X.env.scope scope own = true := by kernel_rfl) (hs : ∀ x, foldedSetIterable iter X.env x = pure x := by intro _; rfl) :
    PN X B es (.ListComp elt [⟨tg, iter, ifs, 0⟩] scope pos) C zs :=
  pe_imp (pe_lc (g := tTgt X.K A u (own.map (·.2))) (tt := fun σ H Q => ∃ y, y ∈ ys ∧ tGT X.K B (u (wipeE es (own.map (·.2))) y) (c y) σ H Q) (te := fun σ H Q => ∃ y, y ∈ ys ∧ c y = true ∧ tG X.K B (u (wipeE es (own.map (·.2))) y) (C.at (f y)) σ H Q)
      hc hN hi (blkOk_by ok) hg (fun s H L cl fp => ⟨fun pins s' σ H' Q I ⟨y, hy, q⟩ => (ht y hy s H L cl fp).run pins s' σ H' Q I q⟩) (fun s H L cl fp => ⟨fun pins s' σ H' Q I ⟨y, hy, hcy, q⟩ => (he y hy hcy s H L cl fp).run pins s' σ H' Q I q⟩) hs)
    (lc_readN hz hlen (fun _ _ _ q => q) (fun _ _ _ _ q => q) (fun y _ _ _ hy q => ⟨y, hy, q⟩) (fun y _ _ _ hy hcy q => ⟨y, hy, hcy, q⟩))
end
theorem EnvA.take {K : PySem.W.Frag} {B : Bs} {es : List Sl} {σ : L2.St} {G H G' H' : Hp} (E : EnvA K B es σ G H) (s : Stp G H G' H') {p : Addr} (hp : H p = none) (hg : G' p = none) {i : Nat} {O : Oc} {o : HO} (ho : H' p = some o) (h2 : O.rel K G' p o) : EnvA K B (es.set i (.own O)) (σ.set i (some (.ref p))) G' H' := by
  obtain ⟨ps, h, n⟩ := E.sl
  have hm : p ∉ ps := fun hm => by obtain ⟨_, _, o, e⟩ := h.free p hm; rw [hp] at e; cases e
  obtain ⟨qs, q, nd, _⟩ := (h.step s).setO (i := i) ho h2 hg (E.st.hh.free hp) hm n
  exact ⟨E.st.trans s, qs, q, nd⟩
/-- a promise: a list that nothing else holds -/
def spN (K : PySem.W.Frag) {ι β : Type} (Ar : ι → List Sl) (pre : ι → Prop) (A : Rp β) (f : ι → List β) : Sp := fun vs H Q _ => ∃ G i, Same G H ∧ SlA K G vs (Ar i) ∧ pre i ∧ ∀ p us G' H', Stp G H G' H' → H p = none → G' p = none → H' p = some (.lst us) → Paired (A.rel K G') us (f i) → (f i).length ≤ sizeLine → Q (.ref p) H'
section
variable {P : Program} {w : World} {K : PySem.W.Frag} {mg : Str → Option Value} {base : Heap}
def newR {β : Type} (K : PySem.W.Frag) (B : Bs) (A : Rp β) (xs : List β) : Hp → Hp → V → Prop := fun G H v => ∃ p us, v = .ref p ∧ B.H p = none ∧ G p = none ∧ H p = some (.lst us) ∧ Paired (A.rel K G) us xs ∧ xs.length ≤ sizeLine
theorem fn_new {x qual : Str} {st : Stmt} {f : Addr} {fd : FuncData} {N ps : List Str} {k : Nat} {ι β : Type} {Ar : ι → List Sl} {pre : ι → Prop} {A : Rp β} {g : ι → List β} (F : Fun K x qual st f fd) (S : FnScope N ps (defScope st)) (hl : ∀ i, (Ar i).length = ps.length) (hno : ∀ i, NoO (Ar i))
    (hbody : ∀ i, pre i → ∀ (cdv : Value) (Aa : Around) (outer : List Env) (s : Shared) (H : Hp) (E : XK) (B : Bs), Room k (Aa.deeper (envOfC qual (defScope st) s.heap.objs.size f cdv)) →
      PSl (cxOf CX0 P w K mg base N qual (defScope st) f cdv Aa outer s H E).nox B (Ar i ++ List.replicate (N.length - ps.length) .un) (defBody st) ⟨fun _ => False, fun _ _ => False, newR K B A (g i)⟩) : FnOk P w K mg base CX0 (k + 1) f fd ps (spN K Ar pre A g) := by
  refine F.ok S (fun vs H Q E h => ?_) (fun cdv Aa outer s H vs Q E hr h => ?_)
  · obtain ⟨G, i, _, r, _⟩ := h
    rw [r.length, hl]
  · obtain ⟨G, i, sm, r, hp, q⟩ := h
    refine ⟨_, hbody i hp cdv Aa outer s H E ⟨G, H⟩ hr, G, ⟨Stp.refl sm, [], ?_, List.nodup_nil⟩, ⟨fun es σ G' H' hn E' => hn.elim, fun v G' H' s' hv => hv.elim, fun v G' H' s' ⟨p, us, e, h1, h2, h3, h4, h5⟩ => e ▸ q p us G' H' s' h1 h2 h3 h4 h5⟩⟩
    unfold L2.start
    rw [r.length, hl]
    exact slots_args _ (hno i) r
end
section
variable {X : Cx} {B : Bs} {es : List Sl} {sts : List Stmt} {O : Out} {e : Expr} {as : List Expr} {x : Str} {p p' pos : Pos} {ps : List Str} {k : Nat} {ι β : Type} {Ar : ι → List Sl} {pre : ι → Prop} {A : Rp β} {xs : List β}
theorem pn_call {g : ι → List β} {d : List β} (D : Df X.prog X.w X.K X.mg X.base CX0 x ps k (spN X.K Ar pre A g)) (hr : Room k X.A) (i : ι) (ha : PAr X B es (e :: as) ((Ar i).map slR)) (hp : pre i) (hd : g i = d := by rfl) (hg : Gl X x := by rfl) (hdb : (x == ("__debug__" : Str)) = false := by decide) (he : starEach (e :: as) X.env = (false, eval e X.env) :: starEach as X.env := by rfl) (hpl : (backTo pos (starEach as X.env)).any (·.1) = false := by rfl) :
    PN X B es (.Call (.Name x p) (e :: as) [] pos) A d := by
  subst hd
  obtain ⟨f, fd, F, m, kp, b⟩ := D.ex
  exact pe_imp (pe_call F hr hg m kp b .nil pass0 ha hdb he hpl) fun σ H Q ⟨G, E, q⟩ => ⟨G, E, fun vs G1 H1 s1 r1 => by
    show spN X.K Ar pre A g (vs ++ []) H1 Q E0
    rw [List.append_nil]
    exact ⟨G1, i, s1.gh, als_sl r1, hp, fun p us G2 H2 s2 h1 h2 h3 h4 h5 => q p us G2 H2 (s1.trans s2) (s1.hh.free h1) h2 h3 h4 h5⟩⟩
/-- x = e, a list that x owns from here on -/
theorem ss_setN (i : Nat) (h : PN X B es e A xs) (r : PSl X B (es.set i (.own (.lst A xs))) sts O) (hN : X.N.Nodup) (hi : X.N[i]? = some x := by rfl) (hx : L2.Loc X.env.scope x := by first | exact Or.inl rfl | exact Or.inr rfl)
    (hs : swapsWith e (some (.Name x p')) pos.line X.env = pure false := by rfl) (hf : X.fn x = true ∨ X.env.scope.names.lookup x = some .local := by first | exact .inl rfl | exact .inr rfl | assumption) : PSl X B es (.Assign [.Name x p'] e pos :: sts) O :=
  ss_do (ps_set hN hi hx h hs hf) (fun D σ G H E q => ⟨G, E, fun p vs G' H' s h1 h2 h3 h4 h5 => q _ G' H' (E.take (O := .lst A xs) s h1 h2 h3 ⟨vs, rfl, h4, h5⟩)⟩) r
theorem ss_retN (h : PN X B es e A xs) (k : ∀ G H v, newR X.K B A xs G H v → O.rn G H v) : PSl X B es (.Return (some e) pos :: sts) O :=
  ss_seq (M := fun _ => False) (ps_imp (ps_ret h) fun D σ H ⟨G, E, q⟩ => ⟨G, E, fun p vs G' H' s h1 h2 h3 h4 h5 => q.rn _ G' H' (E.st.trans s) (k G' H' _ ⟨p, vs, rfl, E.st.hh.free h1, h2, h3, h4, h5⟩)⟩) fun _ h => h.elim
/-- return x, a list that x owns -/
theorem ss_retO (i : Nat) (k : ∀ G H v, newR X.K B A xs G H v → O.rn G H v) (hN : X.N[i]? = some x := by rfl) (he : es[i]? = some (.own (.lst A xs)) := by rfl)
    (hv : Vis X.env.scope x := by first | exact Or.inl rfl | exact Or.inr (Or.inl rfl) | exact Or.inr (Or.inr rfl)) (hd : (x == ("__debug__" : Str)) = false := by decide)
    (hcd : (x == ("__classdict__" : Str)) = false := by decide) : PSl X B es (.Return (some (.Name x p)) pos :: sts) O :=
  ss_seq (M := fun _ => False) (ps_imp (ps_ret (pe_var hN hv hd hcd)) fun D σ H ⟨G, E, q⟩ => by
    obtain ⟨p, o, e, h1, ⟨vs, eo, r, z⟩, h2, h3⟩ := E.getO he
    subst eo
    exact ⟨_, e, q.rn _ G H E.st (k G H _ ⟨p, vs, rfl, h3, h2, h1, r, z⟩)⟩) fun _ h => h.elim
end
/-! ### a list of one count, known by its place -/
def Rp.ref (p : Addr) : Rp Unit := ⟨fun _ _ v _ => v = .ref p, fun _ h => h⟩
def spotAt (p : Addr) : Oc := ⟨fun _ _ q o => q = p ∧ ∃ n : Int, 0 ≤ n ∧ o = .lst [.int n], fun _ h => h⟩
/-- a promise of a def that changes the count at p -/
def spM (K : PySem.W.Frag) {ι β : Type} (Ar : Addr → ι → List Sl) (pre : ι → Prop) (A : Rp β) (post : ι → β → Prop) : Sp := fun vs H Q _ => ∃ G i p n, Same G H ∧ SlA K G vs (Ar p i) ∧ pre i ∧ G p = none ∧ (0 : Int) ≤ n ∧ H p = some (.lst [.int n]) ∧
  ∀ b v G' H' n', post i b → Stp G (hideO [p] H) G' H' → G' p = none → (0 : Int) ≤ n' → H' p = some (.lst [.int n']) → A.rel K G' v b → Q v H'
theorem hide1 {p : Addr} {H : Hp} : hideO [p] H p = none := by unfold hideO; rw [if_pos (by simp)]
theorem hide2 {p q : Addr} {H : Hp} (h : q ≠ p) : hideO [p] H q = H q := by unfold hideO; rw [if_neg (by simpa using h)]
theorem EnvA.moved {K : PySem.W.Frag} {B : Bs} {es : List Sl} {σ : L2.St} {G H G' H' : Hp} {j : Nat} {p : Addr} {n' : Int} (E : EnvA K B es σ G H) (hj : es[j]? = some (.own (spotAt p))) (s : Stp G (hideO [p] H) G' H') (g : G' p = none) (hn : 0 ≤ n') (h : H' p = some (.lst [.int n'])) : EnvA K B es σ G' H' := by
  obtain ⟨ps, sl, nd⟩ := E.sl
  obtain ⟨p2, o2, q1, q2, ⟨q3, _⟩, q4, q5, q6⟩ := sl.getO hj
  subst q3
  have m := sl.mut (O' := spotAt p2) (o' := .lst [.int n']) hj q1 ⟨rfl, n', hn, rfl⟩ nd
  have e : es.set j (.own (spotAt p2)) = es := by
    apply List.ext_getElem?
    intro k
    rw [List.getElem?_set]
    by_cases c : j = k
    · subst c
      rw [if_pos rfl, if_pos (List.getElem?_eq_some_iff.mp hj).1, hj]
    · rw [if_neg c]
  rw [e] at m
  refine ⟨⟨E.st.gg.trans s.gg, s.gh, fun b o eb => ?_, fun a o ea => ?_⟩, ps, m.to s.gg fun q hq => ?_, nd⟩
  · have hb : b ≠ p2 := fun z => by subst z; rw [q5] at eb; cases eb
    exact s.hh b o (by rw [hide2 hb]; exact E.st.hh b o eb)
  · rcases s.nw a o ea with z | z
    · exact E.st.nw a o z
    · by_cases ha : a = p2
      · subst ha; exact .inr q5
      · rw [hide2 ha] at z; exact .inr (E.st.hh.free z)
  · by_cases c : q = p2
    · subst c; exact ⟨g, by rw [h, upd_same]⟩
    · obtain ⟨f1, f2, o, f3⟩ := sl.free q hq
      refine ⟨?_, by rw [upd_ne c, f3]; exact s.hh q o (by rw [hide2 c]; exact f3)⟩
      cases z : G' q with
      | none => rfl
      | some u =>
        rcases s.nw q u z with y | y
        · rw [f1] at y; cases y
        · rw [hide2 c, f3] at y; cases y
section
variable {P : Program} {w : World} {K : PySem.W.Frag} {mg : Str → Option Value} {base : Heap}
def movR {β : Type} (K : PySem.W.Frag) (p : Addr) (A : Rp β) (φ : β → Prop) : Hp → Hp → V → Prop := fun G H v => ∃ b n, φ b ∧ G p = none ∧ (0 : Int) ≤ n ∧ H p = some (.lst [.int n]) ∧ A.rel K G v b
theorem fn_mut {x qual : Str} {st : Stmt} {f : Addr} {fd : FuncData} {N ps : List Str} {k : Nat} {ι β : Type} {Ar : Addr → ι → List Sl} {pre : ι → Prop} {A : Rp β} {post : ι → β → Prop} (F : Fun K x qual st f fd) (S : FnScope N ps (defScope st)) (hl : ∀ p i, (Ar p i).length = ps.length) (hno : ∀ p i, NoO (Ar p i)) (h1 : ∀ p i, (Ar p i)[1]? = some (.dat (Rp.ref p) ()))
    (hbody : ∀ i, pre i → ∀ (pp : Addr) (cdv : Value) (Aa : Around) (outer : List Env) (s : Shared) (H : Hp) (E : XK) (B : Bs), Room k (Aa.deeper (envOfC qual (defScope st) s.heap.objs.size f cdv)) →
      PSl (cxOf CX0 P w K mg base N qual (defScope st) f cdv Aa outer s H E).nox B ((Ar pp i ++ List.replicate (N.length - ps.length) Sl.un).set 1 (.own (spotAt pp))) (defBody st) ⟨fun _ => False, fun _ _ => False, movR K pp A (post i)⟩) : FnOk P w K mg base CX0 (k + 1) f fd ps (spM K Ar pre A post) := by
  refine F.ok S (fun vs H Q E h => ?_) (fun cdv Aa outer s H vs Q E hr h => ?_)
  · obtain ⟨G, i, p, n, _, r, _⟩ := h
    rw [r.length, hl]
  · obtain ⟨G, i, p, n, sm, r, hp, g0, hn, hH, q⟩ := h
    have sm' : Same G (hideO [p] H) := fun b o e => by
      have hb : b ≠ p := fun z => by subst z; rw [g0] at e; cases e
      rw [hide2 hb]; exact sm b o e
    refine ⟨_, hbody i hp p cdv Aa outer s H E ⟨G, hideO [p] H⟩ hr, G, ⟨⟨Same.refl _, sm, fun b o e => ?_, fun a o e => .inl e⟩, ?_⟩, ⟨fun es σ G' H' hn E' => hn.elim, fun v G' H' s' hv => hv.elim, fun v G' H' s' ⟨b, n', hb, g1, hn', h', r'⟩ => q b v G' H' n' hb s' g1 hn' h' r'⟩⟩
    · by_cases hb : b = p
      · subst hb; rw [show (⟨G, hideO [b] H⟩ : Bs).H b = none from hide1] at e; cases e
      · rw [show (⟨G, hideO [p] H⟩ : Bs).H b = H b from hide2 hb] at e; exact e
    · have st := slots_args (B := ⟨G, hideO [p] H⟩) (H := H) (N.length - ps.length) (hno p i) r
      obtain ⟨qs, q1, q2, _⟩ := st.setO (i := 1) (O := spotAt p) hH ⟨rfl, n, hn, rfl⟩ g0 hide1 (by simp) List.nodup_nil
      refine ⟨qs, ?_, q2⟩
      unfold L2.start
      rw [r.length, hl] at *
      have hlen := hl p i
      have e1 : (vs.map some ++ List.replicate (N.length - ps.length) (none : Option V)).set 1 (some (.ref p)) = vs.map some ++ List.replicate (N.length - ps.length) none := by
        have hm : (Ar p i ++ List.replicate (N.length - ps.length) Sl.un)[1]? = some (.dat (Rp.ref p) ()) := by
          have h1l := (List.getElem?_eq_some_iff.mp (h1 p i)).1
          rw [List.getElem?_append_left h1l]; exact h1 p i
        obtain ⟨v, hv, rv⟩ := st.get hm
        have rv : v = .ref p := rv
        subst rv
        apply List.ext_getElem?
        intro k
        rw [List.getElem?_set]
        by_cases c : 1 = k
        · subst c
          rw [if_pos rfl, if_pos (List.getElem?_eq_some_iff.mp hv).1, hv]
        · rw [if_neg c]
      rw [e1] at q1
      exact q1
end
/-- an expression that changes the count: the slots stand as they stood -/
def tM {β : Type} (K : PySem.W.Frag) (B : Bs) (es : List Sl) (A : Rp β) (φ : β → Prop) : TE := fun σ H Q => ∃ G, EnvA K B es σ G H ∧ ∀ b v G' H', φ b → EnvA K B es σ G' H' → A.rel K G' v b → Q v H'
abbrev PM {β : Type} (X : Cx) (B : Bs) (es : List Sl) (e : Expr) (A : Rp β) (φ : β → Prop) : Prop := PE X e (tM X.K B es A φ)
section
variable {X : Cx} {B : Bs} {es : List Sl} {sts : List Stmt} {O : Out} {e : Expr} {as : List Expr} {x : Str} {p p' pos np apos cpos : Pos} {ps : List Str} {k : Nat} {ι κ β γ : Type} {Ar : Addr → ι → List Sl} {pre : ι → Prop} {A : Rp β} {C : Rp γ} {φ : β → Prop} {pp : Addr}
theorem pm_of (h : PR X B es e (rX A φ)) : PM X B es e A φ := pe_imp h fun σ H Q ⟨G, E, q⟩ => ⟨G, E, fun v G' H' s ⟨b, hb, r⟩ => q b v G' H' hb (E.step s) r⟩
/-- the name of the count's list -/
theorem pr_spot (j : Nat) (hN : X.N[j]? = some x := by rfl) (he : es[j]? = some (.own (spotAt pp)) := by rfl)
    (hv : Vis X.env.scope x := by first | exact Or.inl rfl | exact Or.inr (Or.inl rfl) | exact Or.inr (Or.inr rfl)) (hd : (x == ("__debug__" : Str)) = false := by decide)
    (hcd : (x == ("__classdict__" : Str)) = false := by decide) : PR X B es (.Name x pos) ((Rp.ref pp).at ()) :=
  pr_of (pe_var hN hv hd hcd) fun σ G H Q E q => by
    obtain ⟨p, o, e, h1, ⟨h4, _⟩, h2, h3⟩ := E.getO he
    subst h4
    exact ⟨_, e, q _ G H (Stp.refl E.same) rfl⟩
theorem pm_call {post : ι → β → Prop} {Rs : List Rl} (j : Nat) (D : Df X.prog X.w X.K X.mg X.base CX0 x ps k (spM X.K Ar pre A post)) (hr : Room k X.A) (ha : PAr X B es (e :: as) Rs) (hk : ∀ G H vs, Same G H → Als X.K G H vs Rs → ∃ i, SlA X.K G vs (Ar pp i) ∧ pre i ∧ ∀ b, post i b → φ b) (hj : es[j]? = some (.own (spotAt pp)) := by rfl) (hg : Gl X x := by rfl) (hdb : (x == ("__debug__" : Str)) = false := by decide) (he : starEach (e :: as) X.env = (false, eval e X.env) :: starEach as X.env := by rfl) (hpl : (backTo pos (starEach as X.env)).any (·.1) = false := by rfl) :
    PM X B es (.Call (.Name x p) (e :: as) [] pos) A φ := by
  obtain ⟨f, fd, F, m, kp, b⟩ := D.ex
  exact pe_imp (pe_call F hr hg m kp b .nil pass0 ha hdb he hpl) fun σ H Q ⟨G, E, q⟩ => ⟨G, E, fun vs G1 H1 s1 r1 => by
    show spM X.K Ar pre A post (vs ++ []) H1 Q E0
    rw [List.append_nil]
    obtain ⟨i, h1, h2, h3⟩ := hk G1 H1 vs s1.gh r1
    have E1 := E.step s1
    obtain ⟨p2, o, e2, h4, ⟨h5, n, hn, eo⟩, h6, h7⟩ := E1.getO hj
    subst h5; subst eo
    exact ⟨G1, i, p2, n, s1.gh, h1, h2, h6, hn, h4, fun b v G2 H2 n' hb s2 g2 hn' hH2 r2 => q b v G2 H2 (h3 b hb) (E1.moved hj s2 g2 hn' hH2) r2⟩⟩
/-- f(e), f without an exception, e changes the count -/
theorem pm_pure1 {ι' : Type} {Ar' : ι' → List Sl} {pre' : ι' → Prop} {g : ι' → γ} {ψ : γ → Prop} (D : Df X.prog X.w X.K X.mg X.base CX0 x ps k (spI X.K Ar' pre' C g)) (hr : Room k X.A) (h : PM X B es e A φ) (hk : ∀ b, φ b → ∃ i, Ar' i = [.dat A b] ∧ pre' i ∧ ψ (g i)) (hg : Gl X x := by rfl) (hdb : (x == ("__debug__" : Str)) = false := by decide) (he : starEach (e :: []) X.env = (false, eval e X.env) :: starEach [] X.env := by rfl) (hpl : (backTo pos (starEach [] X.env)).any (·.1) = false := by rfl) :
    PM X B es (.Call (.Name x p) [e] [] pos) C ψ := by
  obtain ⟨f, fd, F, m, kp, b⟩ := D.ex
  exact pe_imp (pe_call F hr hg m kp b .nil pass0 (pa_cons h pa_nil he) hdb he hpl) fun σ H Q ⟨G, E, q⟩ => ⟨G, E, fun b v G1 H1 hb E1 r1 => by
    show spI X.K Ar' pre' C g ([v] ++ []) H1 Q E0
    rw [List.append_nil]
    obtain ⟨i, h1, h2, h3⟩ := hk b hb
    refine ⟨G1, i, E1.same, ?_, h2, fun v G2 H2 s2 r2 => q _ v G2 H2 h3 (E1.step s2) r2⟩
    rw [h1]
    exact .cons r1 .nil⟩
theorem ss_setM (i : Nat) (h : PM X B es e A φ) (r : ∀ d, φ d → PSl X B (es.set i (.dat A d)) sts O) (hN : X.N.Nodup) (hi : X.N[i]? = some x := by rfl) (hx : L2.Loc X.env.scope x := by first | exact Or.inl rfl | exact Or.inr rfl)
    (hs : swapsWith e (some (.Name x p')) pos.line X.env = pure false := by rfl) (hf : X.fn x = true ∨ X.env.scope.names.lookup x = some .local := by first | exact .inl rfl | exact .inr rfl | assumption) : PSl X B es (.Assign [.Name x p'] e pos :: sts) O :=
  ss_seq (M := fun es' => ∃ d, φ d ∧ es' = es.set i (.dat A d)) (ps_imp (ps_set hN hi hx h hs hf) fun D σ H ⟨G, E, q⟩ => ⟨G, E, fun d v G' H' hd E' rv => q.nx _ _ G' H' ⟨d, hd, rfl⟩ (E'.setD rv)⟩) fun _ ⟨d, hd, e⟩ => e ▸ r d hd
theorem ss_retM (j : Nat) {d : β} (h : PR X B es e (A.at d)) (hd : φ d) (k : ∀ G H v, movR X.K pp A φ G H v → O.rn G H v) (hj : es[j]? = some (.own (spotAt pp)) := by rfl) : PSl X B es (.Return (some e) pos :: sts) O :=
  ss_seq (M := fun _ => False) (ps_imp (ps_ret h) fun D σ H ⟨G, E, q⟩ => ⟨G, E, fun v G' H' s r => by
    obtain ⟨p2, o, e2, h4, ⟨h5, n, hn, eo⟩, h6, h7⟩ := (E.step s).getO hj
    subst h5; subst eo
    exact q.rn _ G' H' (E.st.trans s) (k G' H' _ ⟨d, n, hd, h6, hn, h4, r⟩)⟩) fun _ h => h.elim
theorem ss_retME (j : Nat) (h : PR X B es e (rX A φ)) (k : ∀ G H v, movR X.K pp A φ G H v → O.rn G H v) (hj : es[j]? = some (.own (spotAt pp)) := by rfl) : PSl X B es (.Return (some e) pos :: sts) O :=
  ss_seq (M := fun _ => False) (ps_imp (ps_ret h) fun D σ H ⟨G, E, q⟩ => ⟨G, E, fun v G' H' s ⟨d, hd, r⟩ => by
    obtain ⟨p2, o, e2, h4, ⟨h5, n, hn, eo⟩, h6, h7⟩ := (E.step s).getO hj
    subst h5; subst eo
    exact q.rn _ G' H' (E.st.trans s) (k G' H' _ ⟨d, n, hd, h6, hn, h4, r⟩)⟩) fun _ h => h.elim
/-- xs.append(e), e changes the count -/
theorem ss_appendM (i : Nat) {α : Type} {A : Rp α} {φ : α → Prop} {xs : List α} (h : PM X B es e A φ) (r : ∀ d, φ d → PSl X B (es.set i (.own (.lst A (xs ++ [d])))) sts O) (z : xs.length < sizeLine) (hi : es[i]? = some (.own (.lst A xs)) := by rfl) (hN : X.N[i]? = some x := by rfl)
    (hv : Vis X.env.scope x := by first | exact Or.inl rfl | exact Or.inr (Or.inl rfl) | exact Or.inr (Or.inr rfl)) (hd : (x == ("__debug__" : Str)) = false := by decide) (hcd : (x == ("__classdict__" : Str)) = false := by decide)
    (hbase : attributeBase (.Name x np) "append" X.env (eval (.Name x np) X.env) = eval (.Name x np) X.env := by rfl)
    (hfew : ((backTo cpos (starEach (e :: []) X.env)).all (fun x => !x.1) && (backToKw cpos (keywordEach [] X.env)).all (fun x => x.1.isSome) && decide ((e :: []).length + ([] : List Keyword).length + (if ([] : List Keyword).isEmpty then 0 else 1) < 30)) = true := by rfl)
    (hline : (apos.endLine == cpos.line) = true := by rfl) (hs : starEach (e :: []) X.env = (false, eval e X.env) :: starEach [] X.env := by rfl) (hplain : (backTo cpos (starEach [] X.env)).any (·.1) = false := by rfl)
    (hsw : swapsWith (.Call (.Attribute (.Name x np) "append" apos) [e] [] cpos) none pos.line X.env = pure false := by rfl) :
    PSl X B es (.Expr (.Call (.Attribute (.Name x np) "append" apos) [e] [] cpos) pos :: sts) O :=
  ss_seq (M := fun es' => ∃ d, φ d ∧ es' = es.set i (.own (.lst A (xs ++ [d])))) (ps_imp (ps_expr (pe_bm PySem.F.plainAttrs_list PySem.F.slot_list_append PySem.F.type_list_append mt_append (pe_var hN hv hd hcd) (pa_cons h pa_nil hs) hbase hfew hline hs hplain) hsw)
    fun D σ H ⟨G, E, q⟩ => by
      obtain ⟨p, o, e1, h1, ⟨vs, eo, rv, zv⟩, h2, h3⟩ := E.getO hi
      subst eo
      refine ⟨_, e1, .inl ⟨rfl, _, SqL.of h1⟩, G, E, fun d v G' H' hd E' rd => ?_⟩
      obtain ⟨p', o', e1', h1', ⟨vs', eo', rv', zv'⟩, h2', h3'⟩ := E'.getO hi
      subst eo'
      rw [e1] at e1'
      cases e1'
      refine ⟨p, vs', v, rfl, rfl, h1', by rw [rv'.length]; exact z, ?_⟩
      refine q.nx _ _ G' _ ⟨d, hd, rfl⟩ (E'.mut hi e1 ⟨vs' ++ [v], rfl, rv'.snoc rd, ?_⟩)
      rw [List.length_append]; exact z) fun _ ⟨d, hd, e⟩ => e ▸ r d hd
/-- a list of one count from here on -/
theorem ss_spot (j : Nat) {n : Int} (hn : 0 ≤ n) (r : ∀ pp, PSl X B (es.set j (.own (spotAt pp))) sts O) (hj : es[j]? = some (.own (.lst Rp.int [n])) := by rfl) : PSl X B es sts O := ⟨fun pins s σ H D I ⟨G, E, q⟩ => by
  obtain ⟨ps, sl, nd⟩ := E.sl
  obtain ⟨p, o, e1, h1, ⟨vs, eo, rv, zv⟩, h2, h3, hp⟩ := sl.getO hj
  subst eo
  have ev := ints_of rv
  subst ev
  refine (r p).run pins s σ H D I ⟨G, ⟨E.st, ps, ?_, nd⟩, q⟩
  have m := sl.mut (O' := spotAt p) (o' := .lst [.int n]) hj e1 ⟨rfl, n, hn, rfl⟩ nd
  have e : upd H p (.lst [V.int n]) = H := by
    funext b
    by_cases hb : b = p
    · subst hb; rw [upd_same]; exact h1.symm
    · rw [upd_ne hb]
  rwa [e] at m⟩
end
end Rw

/-! RwP: rulewright/pairing.py -/
namespace Rw
open PySem PyProof.Rows L2
def pNum (s : Str) : Nat := (s.cps.toList.drop 1).foldl (fun a c => 10 * a + (c - 48)) 0
theorem pNames_num : ((span 1 400).map pName).map pNum = List.range' 1 399 := by decide +kernel
theorem nd_of_map {α β : Type} (f : α → β) : ∀ {l : List α}, (l.map f).Nodup → l.Nodup
  | [], _ => List.nodup_nil
  | a :: l, h => by
    have h' := List.nodup_cons.mp (show (f a :: l.map f).Nodup from h)
    exact List.nodup_cons.mpr ⟨fun q => h'.1 (List.mem_map.mpr ⟨a, q, rfl⟩), nd_of_map f h'.2⟩
theorem pNames_nd : ((span 1 400).map pName).Nodup := nd_of_map pNum (by rw [pNames_num]; exact List.nodup_range')
theorem pNames_ok : ∀ i ∈ span 1 400, SOk (Str.ofString (toString i)) ∧ i.natAbs.log2 < 1920 ∧ (Str.ofString (toString i)).length ≤ 10 := by decide +kernel
theorem newNames_len {g : Gram} (h : g.length ≤ 40) : 359 ≤ (newNames g).length ∧ (newNames g).length ≤ 399 := by
  unfold newNames
  have h1 : ((span 1 400).map pName).length = 399 := by decide
  have nd := pNames_nd
  generalize (span 1 400).map pName = l at h1 nd
  have h2 : (l.filter fun n => decide (n ∈ namesBy g)).length ≤ (namesBy g).length := nodup_le (nd.filter _) fun x hx => of_decide_eq_true (List.mem_filter.mp hx).2
  have h3 := namesBy_len g
  have h4 : (l.filter fun n => decide (n ∈ namesBy g)).length + (l.filter fun n => !decide (n ∈ namesBy g)).length = l.length := by
    clear h1 nd h2
    induction l with
    | nil => rfl
    | cons a l ih =>
      rw [List.filter_cons, List.filter_cons, List.length_cons]
      by_cases c : a ∈ namesBy g <;> simp [c] <;> omega
  omega
section
variable (P : Program) (w : World) (K : PySem.W.Frag) (mg : Str → Option Value) (base : Heap) (cls : Kd → Addr)
abbrev D_new_names := Df P w K mg base CX0 "new_names" ["grammar", "letter"] 2 (spN K (ι := Gram) (fun g => [.dat rGram g, .dat Rp.str "P"]) (fun g => g.length ≤ 40) Rp.str newNames)
abbrev D_paired := Df P w K mg base (L2N.CX P w) "paired" ["grammar"] 5 (spE K cls (ι := Gram) (fun g => [.dat rGram g]) WF (rGram.pair (Rp.int.pair Rp.int).lst) paired)
end
section
variable {P : Program} {w : World} {K : PySem.W.Frag} {mg : Str → Option Value} {base : Heap} {cls : Kd → Addr}
theorem ok_new_names (T : Top K mg "new_names" st_new_names ["grammar", "letter"]) (M : Blt mg) (D1 : D_names_by P w K mg base) : D_new_names P w K mg base := T.df fun f fd F => by
  refine fn_new F sc_new_names (fun _ => rfl) no2 fun g hg cdv Aa outer sh H E B hr => ?_
  have hg : g.length ≤ 40 := hg
  show PSl _ _ [.dat rGram g, .dat Rp.str "P", .un, .un, .un, .un] _ _
  have hnl := namesBy_len g
  refine ss_set 2 (pr_call D1 hr g (par_cons (pr_var 0) par_nil) (by show g.length ≤ 100; omega)) ?_ sc_new_names.nd
  refine ss_setLcm 3 [("number", 4)] pName (it_range2 pr_int pr_int (by decide) M.range) (fun _ _ _ _ _ => tg_name 4 sc_new_names.nd) (fun y hy _ _ _ _ _ => pr_bin (pr_var 1) (pr_callT (par_cons (pr_var 4) par_nil) M.str (cb_str (pNames_ok y hy).2.1 (pNames_ok y hy).1)) (bin_addS ?_)) (small (by decide)) sc_new_names.nd ?_
  · have := (pNames_ok y hy).2.2
    show 1 + (Str.ofString (toString y)).length ≤ 1000000
    omega
  refine ss_retN (pn_lc [("name", 5)] (c := fun n => !decide (n ∈ namesBy g)) (f := fun n => n) (it_list (pr_var 3)) (fun _ _ _ _ _ => tg_name 5 sc_new_names.nd) (fun y hy _ _ _ _ _ => pts_1 (pb_cmp (pr_var 5) (pr_l (pr_var 2)) cmp_niL)) (fun y hy _ _ _ _ _ _ => pr_var 5) (small (by decide)) sc_new_names.nd) fun G H v h => ?_
  rw [List.map_id'] at h
  exact h
theorem pairRule_stop {number : Int} {rest : List Str} {name : Str} {place : Int} {st : PairSt} (h : rest.length ≤ 2) : pairRule number rest name place st = (st.1 ++ [(name, rest)], st.2.1 ++ [(number, place)], st.2.2) := by
  match rest, h with
  | [], _ => rw [pairRule]; simp
  | [_], _ => rw [pairRule]; simp
  | [_, _], _ => rw [pairRule]; simp
theorem drop_cut {α : Type} (xs : List α) {k : Nat} (h : k ≤ xs.length) : xs.drop k = (xs.drop (HT.sIx xs.length 0 (some (k : Int)))).take (HT.sIx xs.length xs.length none - HT.sIx xs.length 0 (some (k : Int))) := by
  have e1 : HT.sIx xs.length xs.length none = xs.length := rfl
  have e2 : HT.sIx xs.length 0 (some (k : Int)) = k := by
    unfold HT.sIx
    simp only [show ¬ (k : Int) < 0 by omega, if_false]
    omega
  rw [e1, e2, List.take_of_length_le (by rw [List.length_drop]; omega)]
theorem ok_paired (T : Top K mg "paired" st_paired ["grammar"]) (M : Blt mg) (X0 : ExA K mg cls) (D1 : D_must_be_grammar P w K mg base) (D2 : D_new_names P w K mg base) : D_paired P w K mg base cls := T.df fun f fd F => by
  refine fn_exc F sc_paired (fun _ => rfl) no1 fun g W cdv Aa outer sh H E B hr hE => ?_
  have W : WF g := W
  have S := W.sm
  have hl := W.le
  have h1 := W.pos
  obtain ⟨t40, h40⟩ := M.rules40
  obtain ⟨hn1, hn2⟩ := newNames_len hl
  show PSl _ _ [.dat rGram g, .un, .un, .un, .un, .un, .un, .un, .un] _ _
  refine ss_expr (pr_call D1 hr g (par_cons (pr_var 0) par_nil) W) ?_
  refine ss_setN 1 (pn_call D2 (hr.mono (by decide)) g (par_cons (pr_var 0) (par_cons pr_str par_nil)) hl) ?_ sc_paired.nd
  refine ss_own0 2 rRule ?_ sc_paired.nd
  refine ss_own0 3 (Rp.int.pair Rp.int) ?_ sc_paired.nd
  refine ss_for (fun i es => ∃ (st : PairSt) (a4 a5 a6 a7 a8 : Sl), st = ((enumI g).take i).foldl (fun st nr => pairRule nr.1 nr.2.2 nr.2.1 0 st) ([], [], newNames g) ∧ st.1.length ≤ 7 * i ∧ st.2.1.length ≤ 7 * i ∧ 359 ≤ st.2.2.length + 6 * i ∧
      es = [.dat rGram g, .own (.lst Rp.str st.2.2), .own (.lst rRule st.1), .own (.lst (Rp.int.pair Rp.int) st.2.1), a4, a5, a6, a7, a8])
    (it_enum (pr_var 0) M.enumerate) (tg_pair 4 5 rfl sc_paired.nd) ⟨([], [], newNames g), .un, .un, .un, .un, .un, rfl, Nat.zero_le _, Nat.zero_le _, hn1, rfl⟩ ?_ ?_ (passes_of rfl) rfl
  · rintro B' i ⟨num, r⟩ _ hi ⟨st, a4, a5, a6, a7, a8, hst, hb1, hb2, hb3, rfl⟩
    have hm : r ∈ g := by
      obtain ⟨_, _, j, _, hj⟩ := enumI_mem (List.mem_of_getElem? hi)
      exact List.mem_of_getElem? hj
    have hil := (List.getElem?_eq_some_iff.mp hi).1
    rw [enumI_len] at hil
    have h6 := W.six r hm
    have hnx : ((enumI g).take (i + 1)).foldl (fun st nr => pairRule nr.1 nr.2.2 nr.2.1 0 st) ([], [], newNames g) = pairRule num r.2 r.1 0 st := by rw [take_succ hi, List.foldl_append, ← hst]; rfl
    show PSl _ _ [.dat rGram g, .own (.lst Rp.str st.2.2), .own (.lst rRule st.1), .own (.lst (Rp.int.pair Rp.int) st.2.1), .dat Rp.int num, .dat rRule r, a6, a7, a8] _ _
    refine ss_pair 6 7 (pr_var 5) ?_ rfl sc_paired.nd (tg_pair 6 7 rfl sc_paired.nd)
    refine ss_set 8 pr_int ?_ sc_paired.nd
    show PSl _ _ [.dat rGram g, .own (.lst Rp.str st.2.2), .own (.lst rRule st.1), .own (.lst (Rp.int.pair Rp.int) st.2.1), .dat Rp.int num, .dat rRule r, .dat Rp.str r.1, .dat Rp.str.tup r.2, .dat Rp.int 0] _ _
    refine ss_while (n0 := r.2.length) (fun n es => ∃ (s' : PairSt) (place : Nat) (name : Str), n + place = r.2.length ∧ pairRule num (r.2.drop place) name place s' = pairRule num r.2 r.1 0 st ∧ s'.1.length ≤ 7 * i + place ∧ s'.2.1.length ≤ 7 * i + place ∧ 359 ≤ s'.2.2.length + 6 * i + place ∧
      es = [.dat rGram g, .own (.lst Rp.str s'.2.2), .own (.lst rRule s'.1), .own (.lst (Rp.int.pair Rp.int) s'.2.1), .dat Rp.int num, .dat rRule r, .dat Rp.str name, .dat Rp.str.tup r.2, .dat Rp.int (place : Int)])
      ⟨st, 0, r.1, rfl, rfl, hb1, hb2, hb3, rfl⟩ ?_ (passes_of rfl)
    rintro B'' n _ ⟨s', place, name, hnp, hpr, hc1, hc2, hc3, rfl⟩
    refine ⟨decide ((2 : Int) < ((r.2.length : Nat) : Int) - (place : Int)), pb_cmp (pr_bin (pr_callB (par_cons (pr_var 7) par_nil) M.len cb_lenT) (pr_var 8) bin_sub) pr_int cmp_gt, fun hf => ?_, fun hf => ?_⟩
    · have hf := of_decide_eq_true hf
      have hp0 : place < r.2.length := by omega
      have g0 : r.2[place]? = some r.2[place] := List.getElem?_eq_getElem hp0
      have g1 : r.2[place + 1]? = some (r.2[place + 1]'(by omega)) := List.getElem?_eq_getElem (by omega)
      have g2 : r.2[place + 2]? = some (r.2[place + 2]'(by omega)) := List.getElem?_eq_getElem (by omega)
      rw [drop_get g0, drop_get g1, drop_get g2, pairRule, ← drop_get g2, ← drop_get g1] at hpr
      obtain ⟨r1, b1, s1⟩ := s'
      cases s1 with
      | nil => simp at hc3; omega
      | cons nw s1 =>
      have hpr : pairRule num (r.2.drop (place + 1)) nw ((place : Int) + 1) (r1 ++ [(name, [r.2[place], nw])], b1 ++ [(num, (place : Int))], s1) = pairRule num r.2 r.1 0 st := hpr
      have hc1 : r1.length ≤ 7 * i + place := hc1
      have hc2 : b1.length ≤ 7 * i + place := hc2
      have hc3 : 359 ≤ (nw :: s1).length + 6 * i + place := hc3
      rw [List.length_cons] at hc3
      refine ss_append 2 (d := (name, [r.2[place], nw])) (pr_pair (pr_var 6) (pr_tup Rp.str [r.2[place], nw] (par_cons (pr_ix (pr_var 7) (pr_var 8) (ix_T (atI_nat g0))) (par_cons (pr_ix (pr_own 1) pr_int (ix_L (atI_nat (j := 0) rfl))) par_nil)) (small (by simp)))) ?_ ?_
      rotate_left
      · exact smallL (by omega)
      refine ss_append 3 (pr_pair (pr_var 4) (pr_var 8)) ?_ ?_
      rotate_left
      · exact smallL (by omega)
      refine ss_pop0 6 1 ?_ sc_paired.nd
      refine ss_set 8 (d := ((place + 1 : Nat) : Int)) (pr_eq (pr_bin (pr_var 8) pr_int bin_add) (by omega)) ?_ sc_paired.nd
      refine ss_nil ⟨n - 1, by omega, (r1 ++ [(name, [r.2[place], nw])], b1 ++ [(num, (place : Int))], s1), place + 1, nw, by omega, ?_, ?_, ?_, ?_, rfl⟩
      · rw [show (((place + 1 : Nat) : Int)) = (place : Int) + 1 by omega]; exact hpr
      · show (r1 ++ _).length ≤ _; rw [List.length_append, List.length_singleton]; omega
      · show (b1 ++ _).length ≤ _; rw [List.length_append, List.length_singleton]; omega
      · show 359 ≤ s1.length + _ + _; omega
    · have hf := of_decide_eq_false hf
      rw [pairRule_stop (by rw [List.length_drop]; omega)] at hpr
      refine ss_append 2 (pr_pair (pr_var 6) (pr_slice (pr_var 7) (po_s (pr_var 8)) po_n (drop_cut r.2 (show place ≤ r.2.length by omega)))) ?_ ?_
      rotate_left
      · exact smallL (by omega)
      refine ss_append 3 (pr_pair (pr_var 4) (pr_var 8)) ?_ ?_
      rotate_left
      · exact smallL (by omega)
      refine ss_nil ⟨(s'.1 ++ [(name, r.2.drop place)], s'.2.1 ++ [(num, (place : Int))], s'.2.2), _, _, _, _, _, ?_, ?_, ?_, ?_, rfl⟩
      · rw [hnx, ← hpr]
      · show (s'.1 ++ _).length ≤ _; rw [List.length_append, List.length_singleton]; omega
      · show (s'.2.1 ++ _).length ≤ _; rw [List.length_append, List.length_singleton]; omega
      · show 359 ≤ s'.2.2.length + _; omega
  · rintro _ ⟨st, a4, a5, a6, a7, a8, hst, hb1, hb2, hb3, rfl⟩
    rw [enumI_len] at hb1
    have hst : st = pairAll g := by rw [hst, List.take_length]; rfl
    refine ss_frzL 2 (ss_frzL 3 ?_)
    refine ss_if2 (k := !decide (st.1.length ≤ 40)) (pb_eq (pb_cmp (pr_callB (par_cons (pr_l (pr_var 2)) par_nil) M.len cb_lenL) (pr_globI h40) cmp_gt) ?_) (fun c => ?_) (fun c => ?_)
    · show decide ((40 : Int) < ((st.1.length : Nat) : Int)) = _
      rw [← decide_not, decide_eq_decide]; omega
    · have c : ¬ st.1.length ≤ 40 := by simpa using c
      exact raise_own X0.tooMany (L2N.takes_of rfl rfl rfl rfl) fun σ H' s => hE Kd.tooMany (by unfold paired; rw [← hst, if_neg c]) H' s
    · have c : st.1.length ≤ 40 := by simpa using c
      refine ss_nil ?_
      refine ss_ret (pr_pair (pr_var 2) (pr_var 3)) fun G v r => ⟨_, ?_, r⟩
      unfold paired; rw [← hst, if_pos c]
end
end Rw

/-! RwPL: lead_paired, _law_two_led -/
namespace Rw
open PySem PyProof.Rows L2
def okUn : Nat → List Tr → Prop
  | 0, _ => True
  | m + 1, ts => ts.length < m + 1 → ∃ a k us r, ts = a :: .node k us :: r ∧ okUn m us
inductive InP (g : Gram) (book : List (Int × Int)) : Tr → Prop where
  | leaf (s : Str) : InP g book (.leaf s)
  | node {n : Int} {ts : List Tr} : 0 ≤ n → n < book.length → 0 ≤ (gi book n).1 → (gi book n).1 < g.length → okUn (gi g (gi book n).1).2.length ts → (unpair (gi g (gi book n).1).2.length ts).length ≤ 1000000 →
      (∀ t ∈ unpair (gi g (gi book n).1).2.length ts, InP g book t) → InP g book (.node n ts)
theorem unpair_depth : ∀ (m : Nat) (ts : List Tr), ∀ t ∈ unpair m ts, depth t ≤ depthL ts
  | 0, ts, t, h => depth_le h
  | m + 1, ts, t, h => by
    unfold unpair at h
    split at h
    · split at h
      · rename_i a k us r _
        rcases List.mem_cons.mp h with e | e
        · subst e; rw [depthL]; omega
        · have := unpair_depth m us t e
          rw [depthL, depthL, depth]; omega
      · exact depth_le h
    · exact depth_le h
theorem unpair_stop {m : Nat} {ts : List Tr} (h : ¬ ts.length < m) : unpair m ts = ts := by
  cases m with
  | zero => rfl
  | succ m => unfold unpair; rw [if_neg h]
theorem unpair_go {m : Nat} {a : Tr} {k : Int} {us r : List Tr} (h : (a :: .node k us :: r).length < m + 1) : unpair (m + 1) (a :: .node k us :: r) = a :: unpair m us := by
  rw [unpair, if_pos h]
theorem leadP_node (g : Gram) (book : List (Int × Int)) (n : Int) (ts : List Tr) : leadP g book (.node n ts) = .node (gi book n).1 ((unpair (gi g (gi book n).1).2.length ts).map (leadP g book)) := by
  rw [leadP, List.attach_map_val]
section
variable (P : Program) (w : World) (K : PySem.W.Frag) (mg : Str → Option Value) (base : Heap)
abbrev D_leadP (x : Str) (n : Nat) := Df P w K mg base CX0 x ["grammar", "book", "tree"] (n + 1) (spI K (ι := Gram × List (Int × Int) × Tr) (fun i => [.dat rGram i.1, .dat (Rp.int.pair Rp.int).lst i.2.1, .dat Rp.tr i.2.2]) (fun i => Sm i.1 ∧ depth i.2.2 ≤ n ∧ InP i.1 i.2.1 i.2.2) Rp.tr (fun i => leadP i.1 i.2.1 i.2.2))
end
section
variable {P : Program} {w : World} {K : PySem.W.Frag} {mg : Str → Option Value} {base : Heap} {cls : Kd → Addr}
theorem ok_lead_paired (T : Top K mg "lead_paired" st_lead_paired ["grammar", "book", "tree"]) (M : Blt mg) : ∀ n, D_leadP P w K mg base "lead_paired" n := by
  have step : ∀ n, (∀ m, n = m + 1 → D_leadP P w K mg base "lead_paired" m) → D_leadP P w K mg base "lead_paired" n := fun n ih => T.df fun f fd F => by
    refine fn_pure F sc_lead_paired (fun _ => rfl) no3 fun ⟨g, book, t⟩ ⟨S, hd, hb⟩ cdv Aa outer sh H E B hr => ?_
    show PSl _ _ [.dat rGram g, .dat (Rp.int.pair Rp.int).lst book, .dat Rp.tr t, .un, .un, .un, .un] _ _
    have S : Sm g := S
    have hd : depth t ≤ n := hd
    have hb : InP g book t := hb
    refine ss_if2 (pb_val (pr_callB (par_cons (pr_var 2) (par_cons (pr_ty M.str) par_nil)) M.isinstance cb_isStr)) (fun c => ?_) (fun c => ?_)
    · cases t with
      | node _ _ => cases c
      | leaf s =>
        refine ss_ret (pr_var 2) fun G v h => ?_
        show Rp.tr.rel K G v (leadP g book (.leaf s))
        rw [leadP]; exact h
    · cases t with
      | leaf _ => cases c
      | node k ts =>
        refine ss_nil ?_
        cases n with
        | zero => simp only [depth] at hd; omega
        | succ n =>
        have D := ih n rfl
        refine ss_lenTr 2 fun hlen => ?_
        refine ss_conv 2 (fun _ _ h => of_node h) ?_
        cases hb with
        | node h1 h2 h3 h4 h5 h6 h7 =>
        have hk : ∀ t' ∈ unpair (gi g (gi book k).1).2.length ts, depth t' ≤ n := fun t' ht => by
          have := unpair_depth _ _ t' ht
          rw [depth] at hd; omega
        have h100 : (gi g (gi book k).1).2.length ≤ 100 := S.parts _ (gi_mem h3 h4)
        show PSl _ _ [.dat rGram g, .dat (Rp.int.pair Rp.int).lst book, .dat rNode (k, ts), .un, .un, .un, .un] _ _
        refine ss_set 3 (pr_ix (pr_ix (pr_l (pr_var 1)) (pr_ix (pr_var 2) pr_int ix_P0) (ix_L (atI_gi h1 h2))) pr_int ix_P0) ?_ sc_lead_paired.nd
        refine ss_own0 4 Rp.tr ?_ sc_lead_paired.nd
        refine ss_set 5 (pr_var 2) ?_ sc_lead_paired.nd
        show PSl _ _ [.dat rGram g, .dat (Rp.int.pair Rp.int).lst book, .dat rNode (k, ts), .dat Rp.int (gi book k).1, .own (.lst Rp.tr []), .dat rNode (k, ts), .un] _ _
        refine ss_while (n0 := (gi g (gi book k).1).2.length) (fun m es => ∃ (acc : List Tr) (k' : Int) (us : List Tr), acc.length + m = (gi g (gi book k).1).2.length ∧ okUn m us ∧ us.length ≤ 1000000 ∧ acc ++ unpair m us = unpair (gi g (gi book k).1).2.length ts ∧
          es = [.dat rGram g, .dat (Rp.int.pair Rp.int).lst book, .dat rNode (k, ts), .dat Rp.int (gi book k).1, .own (.lst Rp.tr acc), .dat rNode (k', us), .un]) ⟨[], k, ts, by simp, h5, hlen, rfl, rfl⟩ ?_ PassesOwn.never
        rintro B' m _ ⟨acc, k', us, ha, hu, hul, hun, rfl⟩
        refine ⟨decide (((acc.length : Nat) : Int) + ((us.length : Nat) : Int) < (((gi g (gi book k).1).2.length : Nat) : Int)), pb_cmp (pr_bin (pr_callB (par_cons (pr_own 4) par_nil) M.len cb_lenL) (pr_callB (par_cons (pr_ix (pr_var 5) pr_int ix_P1) par_nil) M.len cb_lenT) bin_add) (pr_callB (par_cons (pr_ix (pr_ix (pr_l (pr_var 0)) (pr_var 3) (ix_L (atI_gi h3 h4))) pr_int ix_P1) par_nil) M.len cb_lenT) cmp_lt, fun hf => ?_, fun hf => ?_⟩
        · have hf := of_decide_eq_true hf
          cases m with
          | zero => omega
          | succ m =>
          have hlt : us.length < m + 1 := by omega
          obtain ⟨a, k2, us2, r, rfl, hu2⟩ := hu hlt
          have hun : acc ++ a :: unpair m us2 = unpair (gi g (gi book k).1).2.length ts := by
            rw [← hun, unpair_go hlt]
          refine ss_append 4 (pr_ix (pr_ix (pr_var 5) pr_int ix_P1) pr_int (ix_T (atI_nat (j := 0) rfl))) ?_ ?_
          rotate_left
          · exact smallL (by omega)
          refine ss_set 5 (A := Rp.tr) (d := .node k2 us2) (pr_ix (pr_ix (pr_var 5) pr_int ix_P1) pr_int (ix_T (atI_nat (j := 1) rfl))) ?_ sc_lead_paired.nd
          refine ss_lenTr 5 fun hlen2 => ?_
          refine ss_conv 5 (fun _ _ h => of_node h) ?_
          refine ss_nil ⟨m, Nat.lt_succ_self m, acc ++ [a], k2, us2, by rw [List.length_append, List.length_singleton]; omega, hu2, hlen2, ?_, rfl⟩
          rw [List.append_assoc]; exact hun
        · have hf := of_decide_eq_false hf
          have hlt : ¬ us.length < m := by omega
          rw [unpair_stop hlt] at hun
          have hl6 : (acc ++ us).length ≤ 1000000 := by rw [hun]; exact h6
          have hl7 : acc.length + us.length ≤ sizeLine := by rw [← List.length_append]; exact len6 hl6
          refine ss_extend 4 (pr_callT (par_cons (pr_ix (pr_var 5) pr_int ix_P1) par_nil) M.list cb_listT) ?_ hl7
          refine ss_frzL 4 ?_
          refine ss_ret (pr_pair (pr_var 3) (pr_callT (par_cons (pr_l (pr_lcm [("one", 6)] (leadP g book) (it_list (pr_var 4)) (fun _ _ _ _ _ => tg_name 6 sc_lead_paired.nd)
            (fun y hy _ _ _ _ _ => pr_call D hr (g, book, y) (par_cons (pr_var 0) (par_cons (pr_var 1) (par_cons (pr_var 6) par_nil))) ⟨S, hk y (by rw [← hun]; exact hy), h7 y (by rw [← hun]; exact hy)⟩) (len6 hl6) sc_lead_paired.nd)) par_nil) M.tuple cb_tuple)) fun G v h => ?_
          show Rp.tr.rel K G v (leadP g book (.node k ts))
          rw [leadP_node, ← hun]
          exact node_of (by rw [List.length_map]; exact hl6) h
  intro n
  induction n with
  | zero => exact step 0 fun m h => by omega
  | succ n ih => exact step (n + 1) fun m h => by have : m = n := by omega
                                                  subst this; exact ih
theorem ok__law_two_led (T : Top K mg "_law_two_led" st__law_two_led ["grammar", "book", "tree"]) (M : Blt mg) : ∀ n, D_leadP P w K mg base "_law_two_led" n := by
  have step : ∀ n, (∀ m, n = m + 1 → D_leadP P w K mg base "_law_two_led" m) → D_leadP P w K mg base "_law_two_led" n := fun n ih => T.df fun f fd F => by
    refine fn_pure F sc__law_two_led (fun _ => rfl) no3 fun ⟨g, book, t⟩ ⟨S, hd, hb⟩ cdv Aa outer sh H E B hr => ?_
    show PSl _ _ [.dat rGram g, .dat (Rp.int.pair Rp.int).lst book, .dat Rp.tr t, .un, .un, .un, .un] _ _
    have S : Sm g := S
    have hd : depth t ≤ n := hd
    have hb : InP g book t := hb
    refine ss_if2 (pb_val (pr_callB (par_cons (pr_var 2) (par_cons (pr_ty M.str) par_nil)) M.isinstance cb_isStr)) (fun c => ?_) (fun c => ?_)
    · cases t with
      | node _ _ => cases c
      | leaf s =>
        refine ss_ret (pr_var 2) fun G v h => ?_
        show Rp.tr.rel K G v (leadP g book (.leaf s))
        rw [leadP]; exact h
    · cases t with
      | leaf _ => cases c
      | node k ts =>
        refine ss_nil ?_
        cases n with
        | zero => simp only [depth] at hd; omega
        | succ n =>
        have D := ih n rfl
        refine ss_lenTr 2 fun hlen => ?_
        refine ss_conv 2 (fun _ _ h => of_node h) ?_
        cases hb with
        | node h1 h2 h3 h4 h5 h6 h7 =>
        have hk : ∀ t' ∈ unpair (gi g (gi book k).1).2.length ts, depth t' ≤ n := fun t' ht => by
          have := unpair_depth _ _ t' ht
          rw [depth] at hd; omega
        have h100 : (gi g (gi book k).1).2.length ≤ 100 := S.parts _ (gi_mem h3 h4)
        show PSl _ _ [.dat rGram g, .dat (Rp.int.pair Rp.int).lst book, .dat rNode (k, ts), .un, .un, .un, .un] _ _
        refine ss_set 3 (pr_ix (pr_ix (pr_l (pr_var 1)) (pr_ix (pr_var 2) pr_int ix_P0) (ix_L (atI_gi h1 h2))) pr_int ix_P0) ?_ sc__law_two_led.nd
        refine ss_own0 4 Rp.tr ?_ sc__law_two_led.nd
        refine ss_set 5 (pr_var 2) ?_ sc__law_two_led.nd
        show PSl _ _ [.dat rGram g, .dat (Rp.int.pair Rp.int).lst book, .dat rNode (k, ts), .dat Rp.int (gi book k).1, .own (.lst Rp.tr []), .dat rNode (k, ts), .un] _ _
        refine ss_while (n0 := (gi g (gi book k).1).2.length) (fun m es => ∃ (acc : List Tr) (k' : Int) (us : List Tr), acc.length + m = (gi g (gi book k).1).2.length ∧ okUn m us ∧ us.length ≤ 1000000 ∧ acc ++ unpair m us = unpair (gi g (gi book k).1).2.length ts ∧
          es = [.dat rGram g, .dat (Rp.int.pair Rp.int).lst book, .dat rNode (k, ts), .dat Rp.int (gi book k).1, .own (.lst Rp.tr acc), .dat rNode (k', us), .un]) ⟨[], k, ts, by simp, h5, hlen, rfl, rfl⟩ ?_ PassesOwn.never
        rintro B' m _ ⟨acc, k', us, ha, hu, hul, hun, rfl⟩
        refine ⟨decide (((acc.length : Nat) : Int) + ((us.length : Nat) : Int) < (((gi g (gi book k).1).2.length : Nat) : Int)), pb_cmp (pr_bin (pr_callB (par_cons (pr_own 4) par_nil) M.len cb_lenL) (pr_callB (par_cons (pr_ix (pr_var 5) pr_int ix_P1) par_nil) M.len cb_lenT) bin_add) (pr_callB (par_cons (pr_ix (pr_ix (pr_l (pr_var 0)) (pr_var 3) (ix_L (atI_gi h3 h4))) pr_int ix_P1) par_nil) M.len cb_lenT) cmp_lt, fun hf => ?_, fun hf => ?_⟩
        · have hf := of_decide_eq_true hf
          cases m with
          | zero => omega
          | succ m =>
          have hlt : us.length < m + 1 := by omega
          obtain ⟨a, k2, us2, r, rfl, hu2⟩ := hu hlt
          have hun : acc ++ a :: unpair m us2 = unpair (gi g (gi book k).1).2.length ts := by
            rw [← hun, unpair_go hlt]
          refine ss_append 4 (pr_ix (pr_ix (pr_var 5) pr_int ix_P1) pr_int (ix_T (atI_nat (j := 0) rfl))) ?_ ?_
          rotate_left
          · exact smallL (by omega)
          refine ss_set 5 (A := Rp.tr) (d := .node k2 us2) (pr_ix (pr_ix (pr_var 5) pr_int ix_P1) pr_int (ix_T (atI_nat (j := 1) rfl))) ?_ sc__law_two_led.nd
          refine ss_lenTr 5 fun hlen2 => ?_
          refine ss_conv 5 (fun _ _ h => of_node h) ?_
          refine ss_nil ⟨m, Nat.lt_succ_self m, acc ++ [a], k2, us2, by rw [List.length_append, List.length_singleton]; omega, hu2, hlen2, ?_, rfl⟩
          rw [List.append_assoc]; exact hun
        · have hf := of_decide_eq_false hf
          have hlt : ¬ us.length < m := by omega
          rw [unpair_stop hlt] at hun
          have hl6 : (acc ++ us).length ≤ 1000000 := by rw [hun]; exact h6
          have hl7 : acc.length + us.length ≤ sizeLine := by rw [← List.length_append]; exact len6 hl6
          refine ss_ret (pr_pair (pr_var 3) (pr_callT (par_cons (pr_l (pr_lcm [("one", 6)] (leadP g book) (it_list (pr_bin (pr_own 4) (pr_l (pr_callT (par_cons (pr_ix (pr_var 5) pr_int ix_P1) par_nil) M.list cb_listT)) (bin_cat hl7))) (fun _ _ _ _ _ => tg_name 6 sc__law_two_led.nd)
            (fun y hy _ _ _ _ _ => pr_call D hr (g, book, y) (par_cons (pr_var 0) (par_cons (pr_var 1) (par_cons (pr_var 6) par_nil))) ⟨S, hk y (by rw [← hun]; exact hy), h7 y (by rw [← hun]; exact hy)⟩) (len6 hl6) sc__law_two_led.nd)) par_nil) M.tuple cb_tuple)) fun G v h => ?_
          show Rp.tr.rel K G v (leadP g book (.node k ts))
          rw [leadP_node, ← hun]
          exact node_of (by rw [List.length_map]; exact hl6) h
  intro n
  induction n with
  | zero => exact step 0 fun m h => by omega
  | succ n ih => exact step (n + 1) fun m h => by have : m = n := by omega
                                                  subst this; exact ih
end
end Rw

/-! RwI: plain laws of grammars and trees: growing, makes, dropping -/
namespace Rw
open PySem (Str)
/-! lists -/
theorem mem_gi {α : Type} [Inhabited α] {l : List α} {x : α} (h : x ∈ l) : ∃ n : Int, 0 ≤ n ∧ n < l.length ∧ gi l n = x := by
  obtain ⟨k, hk, e⟩ := List.mem_iff_getElem.mp h
  refine ⟨k, by omega, by omega, ?_⟩
  rw [gi_nat, List.getD_eq_getElem?_getD, List.getElem?_eq_getElem hk, e]; rfl
theorem gi_get {α : Type} [Inhabited α] {l : List α} {k : Nat} (h : k < l.length) : gi l (k : Int) = l[k] := by
  rw [gi_nat, List.getD_eq_getElem?_getD, List.getElem?_eq_getElem h]; rfl
theorem gi_inj {α : Type} [Inhabited α] {l : List α} (nd : l.Nodup) {i j : Int} (hi : 0 ≤ i) (hi' : i < l.length) (hj : 0 ≤ j) (hj' : j < l.length) (h : gi l i = gi l j) : i = j := by
  obtain ⟨a, rfl⟩ := Int.eq_ofNat_of_zero_le hi
  obtain ⟨b, rfl⟩ := Int.eq_ofNat_of_zero_le hj
  rw [gi_get (by omega), gi_get (by omega)] at h
  have := (List.getElem_inj nd (h₀ := by omega) (h₁ := by omega)).mp h
  omega
theorem nodup_map_on {α β : Type} {f : α → β} : ∀ {l : List α}, (∀ x ∈ l, ∀ y ∈ l, f x = f y → x = y) → l.Nodup → (l.map f).Nodup
  | [], _, _ => List.nodup_nil
  | x :: l, h, nd => by
    have nd := List.nodup_cons.mp nd
    rw [List.map_cons, List.nodup_cons]
    refine ⟨fun hm => ?_, nodup_map_on (fun a ha b hb => h a (by simp [ha]) b (by simp [hb])) nd.2⟩
    obtain ⟨y, hy, e⟩ := List.mem_map.mp hm
    have := h x (by simp) y (by simp [hy]) e.symm
    exact nd.1 (this ▸ hy)
/-! heads -/
theorem namesFold_mem : ∀ (g : Gram) (acc : List Str) (n : Str), n ∈ g.foldl namesStep acc ↔ n ∈ acc ∨ ∃ r ∈ g, r.1 = n
  | [], acc, n => by simp
  | r :: g, acc, n => by
    rw [List.foldl_cons, namesFold_mem g _ n]
    unfold namesStep
    split
    · rename_i h
      constructor
      · rintro (e | ⟨x, hx, e⟩)
        · exact .inl e
        · exact .inr ⟨x, by simp [hx], e⟩
      · rintro (e | ⟨x, hx, e⟩)
        · exact .inl e
        · rcases List.mem_cons.mp hx with q | q
          · subst q; subst e; exact .inl h
          · exact .inr ⟨x, q, e⟩
    · rw [List.mem_append]
      constructor
      · rintro ((e | e) | ⟨x, hx, e⟩)
        · exact .inl e
        · simp at e; exact .inr ⟨r, by simp, e.symm⟩
        · exact .inr ⟨x, by simp [hx], e⟩
      · rintro (e | ⟨x, hx, e⟩)
        · exact .inl (.inl e)
        · rcases List.mem_cons.mp hx with q | q
          · subst q; subst e; exact .inl (.inr (by simp))
          · exact .inr ⟨x, q, e⟩
theorem namesBy_mem {g : Gram} {n : Str} : n ∈ namesBy g ↔ ∃ r ∈ g, r.1 = n := by
  unfold namesBy; rw [namesFold_mem]; simp
theorem head_mem {g : Gram} {n : Str} : n ∈ g.map (·.1) ↔ ∃ r ∈ g, r.1 = n := List.mem_map
theorem namesFold_nd : ∀ (g : Gram) (acc : List Str), acc.Nodup → (g.foldl namesStep acc).Nodup
  | [], _, h => h
  | r :: g, acc, h => by
    rw [List.foldl_cons]
    refine namesFold_nd g _ ?_
    unfold namesStep
    split
    · exact h
    · rename_i c
      exact List.nodup_append.mpr ⟨h, by simp, by intro a ha b hb; simp at hb; subst hb; intro e; subst e; exact c ha⟩
theorem namesBy_nd (g : Gram) : (namesBy g).Nodup := namesFold_nd g [] List.nodup_nil
/-! growing -/
section
variable {ok : List Str → Rule → Bool} {g : Gram}
theorem growFold_pre (ok : List Str → Rule → Bool) : ∀ (l : Gram) (ks : List Str), ∃ more, l.foldl (growStep ok) ks = ks ++ more
  | [], ks => ⟨[], by simp⟩
  | r :: l, ks => by
    rw [List.foldl_cons]
    obtain ⟨m, e⟩ := growFold_pre ok l (growStep ok ks r)
    rw [e]
    unfold growStep
    split
    · exact ⟨[r.1] ++ m, by simp⟩
    · exact ⟨m, rfl⟩
theorem growFold_ind (S : Str → Prop) (hS : ∀ ks r, r ∈ g → (∀ k ∈ ks, S k) → r.1 ∉ ks → ok ks r = true → S r.1) : ∀ (l : Gram) (ks : List Str), (∀ r ∈ l, r ∈ g) → (∀ k ∈ ks, S k) → ∀ k ∈ l.foldl (growStep ok) ks, S k
  | [], ks, _, h => h
  | r :: l, ks, hl, h => by
    rw [List.foldl_cons]
    refine growFold_ind S hS l _ (fun x hx => hl x (by simp [hx])) ?_
    unfold growStep
    split
    · rename_i c
      rw [Bool.and_eq_true] at c
      intro k hk
      rcases List.mem_append.mp hk with e | e
      · exact h k e
      · simp at e; subst e; exact hS ks r (hl r (by simp)) h (by simpa using c.1) c.2
    · exact h
theorem growN_ind (S : Str → Prop) (hS : ∀ ks r, r ∈ g → (∀ k ∈ ks, S k) → r.1 ∉ ks → ok ks r = true → S r.1) : ∀ (n : Nat) (ks : List Str), (∀ k ∈ ks, S k) → ∀ k ∈ growN ok g n ks, S k
  | 0, ks, h => h
  | n + 1, ks, h => by
    rw [growN]
    split
    · exact growFold_ind S hS g ks (fun _ h => h) h
    · exact growN_ind S hS n _ (growFold_ind S hS g ks (fun _ h => h) h)
/-- what holds of each name that is added holds of all -/
theorem grow_ind (S : Str → Prop) (hS : ∀ ks r, r ∈ g → (∀ k ∈ ks, S k) → r.1 ∉ ks → ok ks r = true → S r.1) : ∀ k ∈ grow ok g, S k := growN_ind S hS _ [] fun k h => by cases h
theorem grow_head : ∀ k ∈ grow ok g, ∃ r ∈ g, r.1 = k := grow_ind (fun k => ∃ r ∈ g, r.1 = k) fun ks r hr _ _ _ => ⟨r, hr, rfl⟩
theorem growFold_nd : ∀ (l : Gram) (ks : List Str), ks.Nodup → (l.foldl (growStep ok) ks).Nodup
  | [], _, h => h
  | r :: l, ks, h => by
    rw [List.foldl_cons]
    refine growFold_nd l _ ?_
    unfold growStep
    split
    · rename_i c
      rw [Bool.and_eq_true] at c
      have c := c.1
      exact List.nodup_append.mpr ⟨h, by simp, by intro a ha b hb; simp at hb; subst hb; intro e; subst e; simp at c; exact c ha⟩
    · exact h
/-- a turn that adds nothing: no rule is ok that is not in -/
theorem growFold_stop : ∀ (l : Gram) (ks : List Str), (l.foldl (growStep ok) ks).length = ks.length → l.foldl (growStep ok) ks = ks ∧ ∀ r ∈ l, ok ks r = true → r.1 ∈ ks
  | [], ks, _ => ⟨rfl, fun r h => by cases h⟩
  | r :: l, ks, h => by
    rw [List.foldl_cons] at h ⊢
    obtain ⟨m, e⟩ := growFold_pre ok l (growStep ok ks r)
    have hs : growStep ok ks r = ks := by
      unfold growStep at e h ⊢
      split at h
      · rename_i c
        rw [if_pos c] at e
        rw [e] at h
        simp at h
      · rename_i c
        rw [if_neg c]
    rw [hs] at h ⊢
    obtain ⟨a, b⟩ := growFold_stop l ks h
    refine ⟨a, fun x hx hok => ?_⟩
    rcases List.mem_cons.mp hx with q | q
    · subst q
      unfold growStep at hs
      split at hs
      · have := congrArg List.length hs
        simp at this
      · rename_i c
        rw [hok, Bool.and_true] at c
        simpa using c
    · exact b x q hok
theorem growN_closed : ∀ (n : Nat) (ks : List Str), ks.Nodup → (∀ k ∈ ks, k ∈ g.map (·.1)) → g.length + 1 ≤ n + ks.length → ∀ r ∈ g, ok (growN ok g n ks) r = true → r.1 ∈ growN ok g n ks
  | 0, ks, nd, hs, hl => by
    have := nodup_le nd hs
    rw [List.length_map] at this
    omega
  | n + 1, ks, nd, hs, hl => by
    rw [growN]
    split
    · rename_i c
      obtain ⟨a, b⟩ := growFold_stop g ks c
      have a : growTurn ok g ks = ks := a
      rw [a]; exact b
    · rename_i c
      obtain ⟨m, e⟩ := growFold_pre ok g ks
      have e : growTurn ok g ks = ks ++ m := e
      refine growN_closed n _ (growFold_nd g ks nd) (fun k hk => ?_) ?_
      · exact growFold_ind (ok := ok) (g := g) (fun k => k ∈ g.map (·.1)) (fun _ r hr _ _ _ => List.mem_map.mpr ⟨r, hr, rfl⟩) g ks (fun _ h => h) hs k hk
      · rw [e] at c ⊢
        rw [List.length_append] at c ⊢
        omega
theorem grow_closed : ∀ r ∈ g, ok (grow ok g) r = true → r.1 ∈ grow ok g := growN_closed _ [] List.nodup_nil (fun k h => by cases h) (by simp)
end
/-! trees that fit -/
theorem fits_leaf {g : Gram} {p s : Str} : fitsB g p (.leaf s) = true ↔ s = p ∧ isLetter p = true := by
  rw [fitsB, Bool.and_eq_true, decide_eq_true_eq]
theorem fits_node {g : Gram} {p : Str} {n : Int} {ts : List Tr} : fitsB g p (.node n ts) = true ↔ 0 ≤ n ∧ n < g.length ∧ (gi g n).1 = p ∧ fitsL g (gi g n).2 ts = true := by
  rw [fitsB, Bool.and_eq_true, Bool.and_eq_true, Bool.and_eq_true, decide_eq_true_eq, decide_eq_true_eq, decide_eq_true_eq, and_assoc, and_assoc]
theorem fits_cons {g : Gram} {p : Str} {ps : List Str} {t : Tr} {ts : List Tr} : fitsL g (p :: ps) (t :: ts) = true ↔ fitsB g p t = true ∧ fitsL g ps ts = true := by
  rw [fitsL, Bool.and_eq_true]
theorem fits_nil {g : Gram} {ts : List Tr} : fitsL g [] ts = true ↔ ts = [] := by
  cases ts with
  | nil => simp [fitsL]
  | cons t ts => simp [fitsL]
theorem fits_uncons {g : Gram} {p : Str} {ps : List Str} {ts : List Tr} (h : fitsL g (p :: ps) ts = true) : ∃ t us, ts = t :: us ∧ fitsB g p t = true ∧ fitsL g ps us = true := by
  cases ts with
  | nil => rw [fitsL] at h; cases h
  | cons t us => exact ⟨t, us, rfl, fits_cons.mp h⟩
/-- a rule's tree -/
theorem fits_rule {g : Gram} {r : Rule} (hr : r ∈ g) {ts : List Tr} (h : fitsL g r.2 ts = true) : ∃ t, fitsB g r.1 t = true ∧ lets t = letsL ts := by
  obtain ⟨n, a, b, e⟩ := mem_gi hr
  exact ⟨.node n ts, fits_node.mpr ⟨a, b, by rw [e], by rw [e]; exact h⟩, by rw [lets]⟩
theorem fits_letter {g : Gram} {p : Str} (h : isLetter p = true) : fitsB g p (.leaf p) = true := fits_leaf.mpr ⟨rfl, h⟩
/-- trees for all parts -/
theorem fits_all {g : Gram} : ∀ {ps : List Str}, (∀ p ∈ ps, ∃ t, fitsB g p t = true) → ∃ ts, fitsL g ps ts = true
  | [], _ => ⟨[], fits_nil.mpr rfl⟩
  | p :: ps, h => by
    obtain ⟨t, ht⟩ := h p (by simp)
    obtain ⟨ts, hts⟩ := fits_all (ps := ps) fun q hq => h q (by simp [hq])
    exact ⟨t :: ts, fits_cons.mpr ⟨ht, hts⟩⟩
theorem fitsL_each {g : Gram} : ∀ {ps : List Str} {ts : List Tr}, fitsL g ps ts = true → ∀ p ∈ ps, ∃ t ∈ ts, fitsB g p t = true
  | [], _, _, p, hp => by cases hp
  | q :: ps, ts, h, p, hp => by
    obtain ⟨t, us, rfl, a, b⟩ := fits_uncons h
    rcases List.mem_cons.mp hp with e | e
    · subst e; exact ⟨t, by simp, a⟩
    · obtain ⟨u, hu, c⟩ := fitsL_each b p e
      exact ⟨u, by simp [hu], c⟩
abbrev Mk (g : Gram) (p : Str) : Prop := ∃ t, fitsB g p t = true
theorem make_tree {g : Gram} : ∀ k ∈ grow okMake g, Mk g k := grow_ind (Mk g) fun ks r hr h _ ho => by
  unfold okMake at ho
  rw [List.all_eq_true] at ho
  obtain ⟨ts, hts⟩ := fits_all (g := g) (ps := r.2) fun p hp => by
    have := ho p hp
    rw [Bool.or_eq_true, decide_eq_true_eq] at this
    rcases this with e | e
    · exact ⟨_, fits_letter e⟩
    · exact h p e
  obtain ⟨t, ht, _⟩ := fits_rule hr hts
  exact ⟨t, ht⟩
mutual
theorem tree_make {g : Gram} : ∀ (t : Tr) (p : Str), fitsB g p t = true → isLetter p = true ∨ p ∈ grow okMake g
  | .leaf s, p, h => .inl (fits_leaf.mp h).2
  | .node n ts, p, h => by
    obtain ⟨a, b, c, d⟩ := fits_node.mp h
    refine .inr (c ▸ grow_closed (ok := okMake) _ (gi_mem a b) ?_)
    unfold okMake
    rw [List.all_eq_true]
    intro q hq
    rw [Bool.or_eq_true, decide_eq_true_eq]
    exact trees_make ts _ d q hq
theorem trees_make {g : Gram} : ∀ (ts : List Tr) (ps : List Str), fitsL g ps ts = true → ∀ p ∈ ps, isLetter p = true ∨ p ∈ grow okMake g
  | _, [], _, p, hp => by cases hp
  | [], _ :: _, h, _, _ => by rw [fitsL] at h; cases h
  | t :: ts, q :: ps, h, p, hp => by
    obtain ⟨a, b⟩ := fits_cons.mp h
    rcases List.mem_cons.mp hp with e | e
    · subst e; exact tree_make t _ a
    · exact trees_make ts ps b p e
end
theorem makesBy_mem {g : Gram} {n : Str} : n ∈ makesBy g ↔ n ∈ grow okMake g := by
  unfold makesBy
  rw [List.mem_filter, decide_eq_true_eq, namesBy_mem]
  exact ⟨fun h => h.2, fun h => ⟨grow_head n h, h⟩⟩
theorem name_letter' {s : Str} (h : isName s = true) : isLetter s = false := by
  obtain ⟨⟨l⟩⟩ := s
  match l, h with
  | [c], h =>
    have h : (decide (([] : List Nat).length ≤ 7) && decide (c ∈ capsL) && ([] : List Nat).all fun d => decide (d ∈ capsL) || decide (d ∈ figsL)) = true := h
    simp only [Bool.and_eq_true, decide_eq_true_eq] at h
    show decide (c ∈ alphaL) = false
    rw [decide_eq_false_iff_not]
    have h := h.1.2
    unfold alphaL capsL at *
    rw [List.mem_range'] at h ⊢
    omega
  | a :: b :: r, h => rfl
end Rw

/-! RwI2: plain laws of dropping -/
namespace Rw
open PySem (Str)
theorem enumI_iff {α : Type} [Inhabited α] {l : List α} {p : Int × α} : p ∈ enumI l ↔ 0 ≤ p.1 ∧ p.1 < l.length ∧ gi l p.1 = p.2 := by
  constructor
  · intro h
    obtain ⟨a, b, k, e, hk⟩ := enumI_mem h
    refine ⟨a, b, ?_⟩
    rw [e, gi_nat, List.getD_eq_getElem?_getD, hk]; rfl
  · rintro ⟨a, b, c⟩
    obtain ⟨i, r⟩ := p
    obtain ⟨k, rfl⟩ := Int.eq_ofNat_of_zero_le a
    have hk : k < l.length := by have b : (k : Int) < l.length := b; omega
    have c : gi l (k : Int) = r := c
    rw [gi_get hk] at c
    refine List.mem_map.mpr ⟨(l[k], k), ?_, by rw [c]⟩
    exact List.mk_mem_zipIdx_iff_getElem?.mpr (List.getElem?_eq_getElem hk)
theorem enumI_fst {α : Type} (l : List α) : (enumI l).map (·.1) = (List.range l.length).map Int.ofNat := by
  unfold enumI
  rw [List.map_map]
  have : (List.zipIdx l).map (·.2) = List.range l.length := by
    rw [List.zipIdx_map_snd, List.range_eq_range']
  rw [← this, List.map_map]; rfl
theorem enumI_fst_nd {α : Type} (l : List α) : ((enumI l).map (·.1)).Nodup := by
  rw [enumI_fst]
  exact nodup_map_on (fun x _ y _ h => Int.ofNat.inj h) List.nodup_range
theorem useful_iff {g : Gram} {i : Int} : i ∈ useful g ↔ 0 ≤ i ∧ i < g.length ∧ ∀ q ∈ (gi g i).2, isLetter q = true ∨ q ∈ grow okMake g := by
  unfold useful
  rw [List.mem_map]
  constructor
  · rintro ⟨p, hp, rfl⟩
    rw [List.mem_filter, List.all_eq_true] at hp
    obtain ⟨a, b, c⟩ := enumI_iff.mp hp.1
    refine ⟨a, b, fun q hq => ?_⟩
    have := hp.2 q (c ▸ hq)
    rw [Bool.or_eq_true, decide_eq_true_eq, makesBy_mem] at this
    exact this
  · rintro ⟨a, b, c⟩
    refine ⟨(i, gi g i), List.mem_filter.mpr ⟨enumI_iff.mpr ⟨a, b, rfl⟩, ?_⟩, rfl⟩
    rw [List.all_eq_true]
    intro q hq
    rw [Bool.or_eq_true, decide_eq_true_eq, makesBy_mem]
    exact c q hq
theorem useful_nd (g : Gram) : (useful g).Nodup := by
  unfold useful
  exact List.Nodup.sublist (List.Sublist.map _ List.filter_sublist) (enumI_fst_nd g)
abbrev URch (g : Gram) : Str → Prop := Reach ((useful g).map (gi g)) (gi g 0).1
theorem kept_iff {g : Gram} {i : Int} : i ∈ keptNumbers g ↔ i ∈ useful g ∧ URch g (gi g i).1 := by
  classical
  unfold keptNumbers
  rw [List.mem_filter, decide_eq_true_eq]
theorem firstAhead_perm {α : Type} (first : Str) (l : List (Str × α)) : (firstAhead first l).Perm l := by
  unfold firstAhead
  exact List.filter_append_perm _ _
theorem firstAhead_head {α : Type} {first : Str} {l : List (Str × α)} (h : ∃ x ∈ l, x.1 = first) : ∃ y r, firstAhead first l = y :: r ∧ y.1 = first := by
  obtain ⟨x, hx, e⟩ := h
  have hm : x ∈ l.filter (fun e => decide (e.1 = first)) := List.mem_filter.mpr ⟨hx, by simpa using e⟩
  unfold firstAhead
  cases c : l.filter (fun e => decide (e.1 = first)) with
  | nil => rw [c] at hm; cases hm
  | cons y r =>
    refine ⟨y, _, rfl, ?_⟩
    have : y ∈ l.filter (fun e => decide (e.1 = first)) := by rw [c]; simp
    simpa using (List.mem_filter.mp this).2
theorem dropBook_nd (g : Gram) : (dropBook g).Nodup := by
  unfold dropBook
  have p := (firstAhead_perm (gi g 0).1 ((keptNumbers g).map fun i => ((gi g i).1, i))).map (·.2)
  refine p.symm.nodup ?_
  rw [List.map_map]
  have : ((fun x : Str × Int => x.2) ∘ fun i => ((gi g i).1, i)) = id := rfl
  rw [this, List.map_id]
  classical
  unfold keptNumbers
  exact (useful_nd g).sublist List.filter_sublist
/-- a name that makes a text has a useful rule -/
theorem useful_of {g : Gram} {n : Str} (h : n ∈ grow okMake g) (hn : isLetter n = false) : ∃ i ∈ useful g, (gi g i).1 = n := by
  obtain ⟨t, ht⟩ := make_tree n h
  cases t with
  | leaf s => rw [(fits_leaf.mp ht).2] at hn; cases hn
  | node i ts =>
    obtain ⟨a, b, c, d⟩ := fits_node.mp ht
    exact ⟨i, useful_iff.mpr ⟨a, b, trees_make ts _ d⟩, c⟩
structure DropOk (g f : Gram) (b : List Int) : Prop where
  eq : f = b.map (gi g)
  mem : ∀ i, i ∈ b ↔ i ∈ useful g ∧ URch g (gi g i).1
  nd : b.Nodup
  first : (gi f 0).1 = (gi g 0).1
  ne : b ≠ []
  make : (gi g 0).1 ∈ grow okMake g
theorem drop_ok {g f : Gram} {b : List Int} (W : WF g) (h : dropped g = .ok (f, b)) : DropOk g f b := by
  unfold dropped at h
  split at h
  · rename_i c
    rw [decide_eq_true_eq, makesBy_mem] at c
    injection h with h
    injection h with h1 h2
    subst h2
    have g0 : gi g 0 ∈ g := gi_mem (Int.le_refl 0) (by have := W.pos; omega)
    obtain ⟨i, hi, ei⟩ := useful_of c (name_letter' (W.name _ g0))
    have hk : i ∈ keptNumbers g := kept_iff.mpr ⟨hi, by rw [ei]; exact .self⟩
    obtain ⟨y, r, e1, e2⟩ := firstAhead_head (first := (gi g 0).1) (l := (keptNumbers g).map fun i => ((gi g i).1, i)) ⟨_, List.mem_map.mpr ⟨i, hk, rfl⟩, ei⟩
    have hb : dropBook g = y.2 :: r.map (·.2) := by unfold dropBook; rw [e1]; rfl
    refine ⟨h1.symm, fun i => by rw [dropBook_mem, kept_iff], dropBook_nd g, ?_, by rw [hb]; simp, c⟩
    rw [← h1, hb]
    show (gi g y.2).1 = _
    have hy : y ∈ (keptNumbers g).map fun i => ((gi g i).1, i) := firstAhead_mem.mp (by rw [e1]; simp)
    obtain ⟨j, _, ej⟩ := List.mem_map.mp hy
    rw [← e2, ← ej]
  · cases h
section
variable {g f : Gram} {b : List Int}
theorem DropOk.range (D : DropOk g f b) : ∀ i ∈ b, 0 ≤ i ∧ i < g.length := fun i h => useful_mem ((D.mem i).mp h).1
theorem DropOk.len (D : DropOk g f b) : f.length = b.length := by rw [D.eq, List.length_map]
theorem DropOk.le (D : DropOk g f b) : b.length ≤ g.length := by
  have := nodup_le (m := (List.range g.length).map Int.ofNat) D.nd fun i h => by
    obtain ⟨a, c⟩ := D.range i h
    obtain ⟨k, rfl⟩ := Int.eq_ofNat_of_zero_le a
    exact List.mem_map.mpr ⟨k, by rw [List.mem_range]; omega, rfl⟩
  rw [List.length_map, List.length_range] at this
  exact this
theorem DropOk.rule (D : DropOk g f b) {r : Rule} (h : r ∈ f) : ∃ i ∈ b, gi g i = r ∧ r ∈ g := by
  rw [D.eq] at h
  obtain ⟨i, hi, e⟩ := List.mem_map.mp h
  exact ⟨i, hi, e, e ▸ gi_mem (D.range i hi).1 (D.range i hi).2⟩
/-- a reached name that makes a text stands in the dropped grammar -/
theorem DropOk.has (D : DropOk g f b) {n : Str} (hr : URch g n) (h : n ∈ grow okMake g) (hn : isLetter n = false) : ∃ r ∈ f, r.1 = n := by
  obtain ⟨i, hi, e⟩ := useful_of h hn
  refine ⟨gi g i, ?_, e⟩
  rw [D.eq]
  exact List.mem_map.mpr ⟨i, (D.mem i).mpr ⟨hi, by rw [e]; exact hr⟩, rfl⟩
theorem DropOk.part (D : DropOk g f b) {r : Rule} (h : r ∈ f) {p : Str} (hp : p ∈ r.2) (hl : isLetter p = false) : URch g p ∧ p ∈ grow okMake g := by
  obtain ⟨i, hi, e, _⟩ := D.rule h
  obtain ⟨hu, hr⟩ := (D.mem i).mp hi
  subst e
  refine ⟨.step hr (List.mem_map.mpr ⟨i, hu, rfl⟩) hp hl, ?_⟩
  rcases (useful_iff.mp hu).2.2 p hp with e | e
  · rw [hl] at e; cases e
  · exact e
theorem DropOk.wf (W : WF g) (D : DropOk g f b) : WF f where
  pos := by rw [D.len]; have := D.ne; cases hb : b with
    | nil => exact absurd hb this
    | cons x r => simp
  le := by rw [D.len]; have := D.le; have := W.le; omega
  nd := by
    rw [D.eq]
    exact nodup_map_on (fun x hx y hy h => gi_inj W.nd (D.range x hx).1 (D.range x hx).2 (D.range y hy).1 (D.range y hy).2 h) D.nd
  name := fun r h => let ⟨_, _, _, e⟩ := D.rule h; W.name r e
  six := fun r h => let ⟨_, _, _, e⟩ := D.rule h; W.six r e
  part := fun r h p hp => by
    obtain ⟨_, _, _, e⟩ := D.rule h
    rcases W.part r e p hp with q | ⟨q, _⟩
    · exact .inl q
    · refine .inr ⟨q, ?_⟩
      obtain ⟨c, d⟩ := D.part h hp (name_letter' q)
      exact head_mem.mpr (D.has c d (name_letter' q))
mutual
theorem DropOk.lead (D : DropOk g f b) : ∀ (t : Tr) (p : Str), fitsB f p t = true → fitsB g p (renum b t) = true ∧ lets (renum b t) = lets t ∧ depth (renum b t) = depth t ∧ inB b.length t = true
  | .leaf s, p, h => by
    rw [renum]
    exact ⟨fits_leaf.mpr (fits_leaf.mp h), rfl, rfl, by rw [inB]⟩
  | .node n ts, p, h => by
    obtain ⟨h1, h2, h3, h4⟩ := fits_node.mp h
    rw [D.len] at h2
    have e : gi f n = gi g (gi b n) := by rw [D.eq, gi_map (gi g) h1 h2]
    rw [e] at h3 h4
    obtain ⟨k1, k2, k3, k4⟩ := D.leadL ts _ h4
    have hm := D.range _ (gi_mem h1 h2)
    rw [renum]
    refine ⟨fits_node.mpr ⟨hm.1, hm.2, h3, k1⟩, by rw [lets, lets]; exact k2, by rw [depth, depth, k3], ?_⟩
    rw [inB, k4, Bool.and_true, Bool.and_eq_true, decide_eq_true_eq, decide_eq_true_eq]
    exact ⟨h1, h2⟩
theorem DropOk.leadL (D : DropOk g f b) : ∀ (ts : List Tr) (ps : List Str), fitsL f ps ts = true → fitsL g ps (renumL b ts) = true ∧ letsL (renumL b ts) = letsL ts ∧ depthL (renumL b ts) = depthL ts ∧ inBL b.length ts = true
  | [], [], _ => by rw [renumL]; exact ⟨by rw [fitsL], rfl, rfl, by rw [inBL]⟩
  | [], _ :: _, h => by rw [fitsL] at h; cases h
  | _ :: _, [], h => by rw [fitsL] at h; cases h
  | t :: ts, p :: ps, h => by
    obtain ⟨h1, h2⟩ := fits_cons.mp h
    obtain ⟨a1, a2, a3, a4⟩ := D.lead t p h1
    obtain ⟨b1, b2, b3, b4⟩ := D.leadL ts ps h2
    rw [renumL]
    exact ⟨fits_cons.mpr ⟨a1, b1⟩, by rw [letsL, letsL, a2, b2], by rw [depthL, depthL, a3, b3], by rw [inBL, a4, b4]; rfl⟩
end
mutual
/-- a tree of a reached name stands in the dropped grammar, too -/
theorem DropOk.lay (W : WF g) (D : DropOk g f b) : ∀ (t : Tr) (p : Str), fitsB g p t = true → (isLetter p = false → URch g p) → ∃ u, fitsB f p u = true ∧ lets u = lets t
  | .leaf s, p, h, _ => ⟨.leaf s, fits_leaf.mpr (fits_leaf.mp h), rfl⟩
  | .node n ts, p, h, hr => by
    obtain ⟨h1, h2, h3, h4⟩ := fits_node.mp h
    have hm := gi_mem h1 h2
    have hl : isLetter p = false := h3 ▸ name_letter' (W.name _ hm)
    have hu : n ∈ useful g := useful_iff.mpr ⟨h1, h2, trees_make ts _ h4⟩
    have hr := hr hl
    have hi : n ∈ b := (D.mem n).mpr ⟨hu, by rw [h3]; exact hr⟩
    obtain ⟨us, hus, el⟩ := D.layL W ts (gi g n).2 h4 fun q hq hlq => .step (m := p) (ps := (gi g n).2) hr (List.mem_map.mpr ⟨n, hu, by rw [← h3]⟩) hq hlq
    have hrf : gi g n ∈ f := by rw [D.eq]; exact List.mem_map.mpr ⟨n, hi, rfl⟩
    obtain ⟨u, hu1, hu2⟩ := fits_rule hrf hus
    exact ⟨u, h3 ▸ hu1, by rw [hu2, el, lets]⟩
theorem DropOk.layL (W : WF g) (D : DropOk g f b) : ∀ (ts : List Tr) (ps : List Str), fitsL g ps ts = true → (∀ p ∈ ps, isLetter p = false → URch g p) → ∃ us, fitsL f ps us = true ∧ letsL us = letsL ts
  | [], [], _, _ => ⟨[], by rw [fitsL], rfl⟩
  | [], _ :: _, h, _ => by rw [fitsL] at h; cases h
  | _ :: _, [], h, _ => by rw [fitsL] at h; cases h
  | t :: ts, p :: ps, h, hr => by
    obtain ⟨h1, h2⟩ := fits_cons.mp h
    obtain ⟨u, a1, a2⟩ := D.lay W t p h1 (hr p (by simp))
    obtain ⟨us, b1, b2⟩ := D.layL W ts ps h2 fun q hq => hr q (by simp [hq])
    exact ⟨u :: us, fits_cons.mpr ⟨a1, b1⟩, by rw [letsL, letsL, a2, b2]⟩
end
/-- all names of the dropped grammar make some text -/
theorem DropOk.makes (W : WF g) (D : DropOk g f b) : ∀ r ∈ f, r.1 ∈ grow okMake f := by
  intro r hr
  obtain ⟨i, hi, e, hg⟩ := D.rule hr
  obtain ⟨hu, hrc⟩ := (D.mem i).mp hi
  subst e
  have hgm : (gi g i).1 ∈ grow okMake g := by
    refine grow_closed (ok := okMake) _ hg ?_
    unfold okMake
    rw [List.all_eq_true]
    intro q hq
    rw [Bool.or_eq_true, decide_eq_true_eq]
    exact (useful_iff.mp hu).2.2 q hq
  obtain ⟨t, ht⟩ := make_tree _ hgm
  obtain ⟨u, hu', _⟩ := D.lay W t _ ht fun _ => hrc
  have hl := name_letter' (W.name _ hg)
  rcases tree_make u _ hu' with e | e
  · rw [hl] at e; cases e
  · exact e
end
end Rw

/-! RwI3: dicts that are put once; rules as told; empty trees; ways -/
namespace Rw
open PySem (Str)
/-! a dict to which what is new is put -/
section
variable {κ β ι : Type} [DecidableEq κ]
def putStep (c : ι → Bool) (key : ι → κ) (val : ι → β) (f : List (κ × β)) (x : ι) : List (κ × β) := if c x && !dhas f (key x) then dput f (key x) (val x) else f
theorem putStep_cases (c : ι → Bool) (key : ι → κ) (val : ι → β) (f : List (κ × β)) (x : ι) : (putStep c key val f x = f ∧ (c x = true → dhas f (key x) = true)) ∨ (c x = true ∧ dhas f (key x) = false ∧ putStep c key val f x = f ++ [(key x, val x)]) := by
  unfold putStep
  cases hc : c x with
  | false => left; exact ⟨by simp, by simp⟩
  | true =>
    cases hd : dhas f (key x) with
    | true => left; exact ⟨by simp, by simp⟩
    | false => right; exact ⟨rfl, rfl, by simp [dput_new hd]⟩
theorem putFold_nd (c : ι → Bool) (key : ι → κ) (val : ι → β) : ∀ (l : List ι) (f : List (κ × β)), (f.map (·.1)).Nodup → ((l.foldl (putStep c key val) f).map (·.1)).Nodup
  | [], f, h => h
  | x :: l, f, h => by
    rw [List.foldl_cons]
    refine putFold_nd c key val l _ ?_
    rcases putStep_cases c key val f x with ⟨e, _⟩ | ⟨_, hd, e⟩
    · rw [e]; exact h
    · rw [e, List.map_append]
      refine List.nodup_append.mpr ⟨h, by simp, ?_⟩
      intro a ha b hb
      simp at hb; subst hb
      intro q; subst q
      rw [← dhas_mem, hd] at ha; cases ha
theorem putFold_mem (c : ι → Bool) (key : ι → κ) (val : ι → β) : ∀ (l : List ι) (f : List (κ × β)) (kv : κ × β), kv ∈ l.foldl (putStep c key val) f → kv ∈ f ∨ ∃ x ∈ l, c x = true ∧ kv = (key x, val x)
  | [], f, kv, h => .inl h
  | x :: l, f, kv, h => by
    rw [List.foldl_cons] at h
    rcases putFold_mem c key val l _ kv h with q | ⟨y, hy, q⟩
    · rcases putStep_cases c key val f x with ⟨e, _⟩ | ⟨hc, hd, e⟩
      · rw [e] at q; exact .inl q
      · rw [e] at q
        rcases List.mem_append.mp q with a | a
        · exact .inl a
        · simp at a; exact .inr ⟨x, by simp, hc, a⟩
    · exact .inr ⟨y, by simp [hy], q⟩
theorem putFold_keep (c : ι → Bool) (key : ι → κ) (val : ι → β) : ∀ (l : List ι) (f : List (κ × β)) (kv : κ × β), kv ∈ f → kv ∈ l.foldl (putStep c key val) f
  | [], f, kv, h => h
  | x :: l, f, kv, h => by
    rw [List.foldl_cons]
    refine putFold_keep c key val l _ kv ?_
    rcases putStep_cases c key val f x with ⟨e, _⟩ | ⟨_, hd, e⟩
    · rw [e]; exact h
    · rw [e]; exact List.mem_append_left _ h
theorem dhas_iff {f : List (κ × β)} {k : κ} : dhas f k = true ↔ ∃ v, (k, v) ∈ f := by
  rw [dhas_mem, List.mem_map]
  constructor
  · rintro ⟨⟨a, b⟩, h, e⟩
    have e : a = k := e
    subst e; exact ⟨b, h⟩
  · rintro ⟨v, h⟩; exact ⟨_, h, rfl⟩
theorem putFold_has (c : ι → Bool) (key : ι → κ) (val : ι → β) : ∀ (l : List ι) (f : List (κ × β)) (x : ι), x ∈ l → c x = true → dhas (l.foldl (putStep c key val) f) (key x) = true
  | [], f, x, h, _ => by cases h
  | y :: l, f, x, h, hc => by
    rw [List.foldl_cons]
    rcases List.mem_cons.mp h with q | q
    · subst q
      have : dhas (putStep c key val f x) (key x) = true := by
        rcases putStep_cases c key val f x with ⟨e, k⟩ | ⟨_, hd, e⟩
        · rw [e]; exact k hc
        · rw [e]; exact dhas_iff.mpr ⟨val x, by simp⟩
      obtain ⟨v, hv⟩ := dhas_iff.mp this
      exact dhas_iff.mpr ⟨v, putFold_keep c key val l _ _ hv⟩
    · exact putFold_has c key val l _ x q hc
theorem dget_of_mem {f : List (κ × β)} (nd : (f.map (·.1)).Nodup) {k : κ} {v : β} (h : (k, v) ∈ f) : dget f k = some v := by
  induction f with
  | nil => cases h
  | cons a f ih =>
    rw [List.map_cons, List.nodup_cons] at nd
    unfold dget
    rw [List.find?_cons]
    by_cases c : a.1 = k
    · simp only [c, decide_true]
      rcases List.mem_cons.mp h with q | q
      · rw [← q]; rfl
      · exact absurd (List.mem_map.mpr ⟨_, q, c.symm⟩) nd.1
    · simp only [c, decide_false]
      rcases List.mem_cons.mp h with q | q
      · rw [← q] at c; exact absurd rfl c
      · exact ih nd.2 q
end
/-! the rules as told -/
structure TellOk {β : Type} [Inhabited β] (first : Str) (found : List (Rule × β)) (f : Gram) (b : List β) : Prop where
  le : f.length ≤ 40
  nd : f.Nodup
  mem : ∀ r, r ∈ f ↔ ∃ v, (r, v) ∈ found
  len : b.length = f.length
  get : ∀ n : Int, 0 ≤ n → n < f.length → (gi f n, gi b n) ∈ found
  first : (∃ r ∈ f, r.1 = first) → (gi f 0).1 = first
theorem tell_ok {β : Type} [Inhabited β] {first : Str} {found : List (Rule × β)} {f : Gram} {b : List β} (nd : (found.map (·.1)).Nodup) (h : tellRules first found = .ok (f, b)) : TellOk first found f b := by
  unfold tellRules at h
  split at h
  · rename_i c
    injection h with h
    injection h with h1 h2
    rw [h1] at c h2
    have hp : f.Perm (found.map (·.1)) := h1 ▸ firstAhead_perm _ _
    have hm : ∀ r, r ∈ f ↔ ∃ v, (r, v) ∈ found := fun r => by rw [hp.mem_iff, ← dhas_mem, dhas_iff]
    have hl : b.length = f.length := by rw [← h2, List.length_map]
    refine ⟨c, hp.symm.nodup nd, hm, hl, fun n h0 hn => ?_, fun he => ?_⟩
    · obtain ⟨v, hv⟩ := (hm _).mp (gi_mem h0 hn)
      have : gi b n = v := by
        rw [← h2, gi_map _ h0 hn, dget_of_mem nd hv]; rfl
      rw [this]; exact hv
    · obtain ⟨r, hr, e⟩ := he
      obtain ⟨y, q, e1, e2⟩ := firstAhead_head (first := first) (l := found.map (·.1)) ⟨r, hp.mem_iff.mp hr, e⟩
      rw [h1] at e1
      rw [e1]; exact e2
  · cases h
/-! empty trees -/
structure EtI (g : Gram) (f : List (Str × Tr)) : Prop where
  nd : (f.map (·.1)).Nodup
  head : ∀ k ∈ f.map (·.1), k ∈ g.map (·.1)
  fit : ∀ kv ∈ f, fitsB g kv.1 kv.2 = true ∧ lets kv.2 = [] ∧ isLeaf kv.2 = false ∧ depth kv.2 ≤ f.length
theorem dget_has {f : List (Str × Tr)} {p : Str} (h : dhas f p = true) : (p, (dget f p).getD default) ∈ f := by
  exact dget_mem (dget_of_has h)
theorem EtI.row {g : Gram} {f : List (Str × Tr)} (I : EtI g f) : ∀ {ps : List Str}, (∀ p ∈ ps, dhas f p = true) → fitsL g ps (ps.map fun p => (dget f p).getD default) = true ∧ letsL (ps.map fun p => (dget f p).getD default) = [] ∧ depthL (ps.map fun p => (dget f p).getD default) ≤ f.length
  | [], _ => ⟨fits_nil.mpr rfl, by rw [List.map_nil, letsL], by rw [List.map_nil, depthL]; omega⟩
  | p :: ps, h => by
    obtain ⟨a, b, c⟩ := I.row (ps := ps) fun q hq => h q (by simp [hq])
    obtain ⟨d, e, _, k⟩ := I.fit _ (dget_has (h p (by simp)))
    rw [List.map_cons, letsL, depthL]
    have e : lets ((dget f p).getD default) = [] := e
    have k : depth ((dget f p).getD default) ≤ f.length := k
    exact ⟨fits_cons.mpr ⟨d, a⟩, by rw [e, b]; rfl, by omega⟩
theorem etStep_cases (f : List (Str × Tr)) (nr : Int × Rule) : (etStep f nr = f ∧ ((∀ p ∈ nr.2.2, dhas f p = true) → dhas f nr.2.1 = true)) ∨ (dhas f nr.2.1 = false ∧ (∀ p ∈ nr.2.2, dhas f p = true) ∧ etStep f nr = f ++ [(nr.2.1, .node nr.1 (nr.2.2.map fun p => (dget f p).getD default))]) := by
  unfold etStep
  cases hd : dhas f nr.2.1 with
  | true => left; exact ⟨by simp, fun _ => rfl⟩
  | false =>
    cases ha : nr.2.2.all fun p => dhas f p with
    | false =>
      left
      refine ⟨by simp, fun h => ?_⟩
      rw [List.all_eq_true.mpr h] at ha; cases ha
    | true =>
      right
      exact ⟨rfl, List.all_eq_true.mp ha, by simp [dput_new hd]⟩
theorem EtI.step {g : Gram} {f : List (Str × Tr)} (I : EtI g f) {nr : Int × Rule} (h : nr ∈ enumI g) : EtI g (etStep f nr) := by
  rcases etStep_cases f nr with ⟨e, _⟩ | ⟨hd, ha, e⟩
  · rw [e]; exact I
  · rw [e]
    obtain ⟨h1, h2, h3⟩ := enumI_iff.mp h
    obtain ⟨a, b, c⟩ := I.row ha
    refine ⟨?_, fun k hk => ?_, fun kv hkv => ?_⟩
    · rw [List.map_append]
      refine List.nodup_append.mpr ⟨I.nd, by simp, ?_⟩
      intro x hx y hy
      simp at hy; subst hy
      intro q; subst q
      rw [← dhas_mem, hd] at hx; cases hx
    · rw [List.map_append] at hk
      rcases List.mem_append.mp hk with q | q
      · exact I.head k q
      · simp at q; subst q; exact head_mem.mpr ⟨_, gi_mem h1 h2, by rw [h3]⟩
    · rw [List.length_append]
      rcases List.mem_append.mp hkv with q | q
      · obtain ⟨x, y, z, w⟩ := I.fit kv q
        exact ⟨x, y, z, by omega⟩
      · simp at q; subst q
        refine ⟨fits_node.mpr ⟨h1, h2, by rw [h3], by rw [h3]; exact a⟩, by rw [lets]; exact b, rfl, ?_⟩
        rw [depth]
        simp only [List.length_cons, List.length_nil]
        omega
theorem EtI.steps {g : Gram} : ∀ {l : List (Int × Rule)} {f : List (Str × Tr)}, (∀ x ∈ l, x ∈ enumI g) → EtI g f → EtI g (l.foldl etStep f)
  | [], f, _, I => I
  | x :: l, f, h, I => by
    rw [List.foldl_cons]
    exact EtI.steps (fun y hy => h y (by simp [hy])) (I.step (h x (by simp)))
theorem etFold_len : ∀ (l : List (Int × Rule)) (f : List (Str × Tr)), f.length ≤ (l.foldl etStep f).length
  | [], f => Nat.le_refl _
  | x :: l, f => by
    rw [List.foldl_cons]
    refine Nat.le_trans ?_ (etFold_len l _)
    rcases etStep_cases f x with ⟨e, _⟩ | ⟨_, _, e⟩
    · rw [e]; exact Nat.le_refl _
    · rw [e, List.length_append]; omega
theorem etFold_stop : ∀ (l : List (Int × Rule)) (f : List (Str × Tr)), (l.foldl etStep f).length = f.length → l.foldl etStep f = f ∧ ∀ x ∈ l, (∀ p ∈ x.2.2, dhas f p = true) → dhas f x.2.1 = true
  | [], f, _ => ⟨rfl, fun x h => by cases h⟩
  | x :: l, f, h => by
    rw [List.foldl_cons] at h ⊢
    rcases etStep_cases f x with ⟨e, k⟩ | ⟨_, _, e⟩
    · rw [e] at h ⊢
      obtain ⟨a, b⟩ := etFold_stop l f h
      refine ⟨a, fun y hy => ?_⟩
      rcases List.mem_cons.mp hy with q | q
      · subst q; exact k
      · exact b y q
    · have := etFold_len l (etStep f x)
      rw [h, e, List.length_append] at this
      simp at this
      omega
theorem EtI.len {g : Gram} {f : List (Str × Tr)} (I : EtI g f) : f.length ≤ g.length := by
  have := nodup_le I.nd I.head
  rw [List.length_map, List.length_map] at this
  exact this
theorem etN_ok {g : Gram} : ∀ (n : Nat) (f : List (Str × Tr)), EtI g f → g.length + 1 ≤ n + f.length → EtI g (etN g n f) ∧ ∀ r ∈ g, (∀ p ∈ r.2, dhas (etN g n f) p = true) → dhas (etN g n f) r.1 = true
  | 0, f, I, hl => by
    have := I.len
    omega
  | n + 1, f, I, hl => by
    rw [etN]
    split
    · rename_i c
      obtain ⟨a, b⟩ := etFold_stop (enumI g) f c
      have a : etTurn g f = f := a
      rw [a]
      refine ⟨I, fun r hr => ?_⟩
      obtain ⟨i, h1, h2, h3⟩ := mem_gi hr
      exact b (i, r) (enumI_iff.mpr ⟨h1, h2, h3⟩)
    · rename_i c
      have hn : EtI g (etTurn g f) := EtI.steps (fun _ h => h) I
      have := etFold_len (enumI g) f
      have this : f.length ≤ (etTurn g f).length := this
      exact etN_ok n _ hn (by omega)
theorem emptyTrees_ok (g : Gram) : EtI g (emptyTrees g) ∧ ∀ r ∈ g, (∀ p ∈ r.2, dhas (emptyTrees g) p = true) → dhas (emptyTrees g) r.1 = true :=
  etN_ok _ [] ⟨List.nodup_nil, (fun k h => by cases h), (fun kv h => by cases h)⟩ (by simp)
theorem letter_cps {s : Str} (h : isLetter s = true) : ∃ c, s.cps.toList = [c] := by
  obtain ⟨⟨l⟩⟩ := s
  match l, h with
  | [c], _ => exact ⟨c, rfl⟩
mutual
/-- a tree that tells no letter -/
theorem tree_hollow {g : Gram} : ∀ (t : Tr) (p : Str), fitsB g p t = true → lets t = [] → dhas (emptyTrees g) p = true
  | .leaf s, p, h, e => by
    obtain ⟨rfl, hl⟩ := fits_leaf.mp h
    obtain ⟨c, hc⟩ := letter_cps hl
    rw [lets, hc] at e; cases e
  | .node n ts, p, h, e => by
    obtain ⟨h1, h2, h3, h4⟩ := fits_node.mp h
    rw [lets] at e
    exact h3 ▸ (emptyTrees_ok g).2 _ (gi_mem h1 h2) (trees_hollow ts _ h4 e)
theorem trees_hollow {g : Gram} : ∀ (ts : List Tr) (ps : List Str), fitsL g ps ts = true → letsL ts = [] → ∀ p ∈ ps, dhas (emptyTrees g) p = true
  | _, [], _, _, p, hp => by cases hp
  | [], _ :: _, h, _, _, _ => by rw [fitsL] at h; cases h
  | t :: ts, q :: ps, h, e, p, hp => by
    obtain ⟨a, b⟩ := fits_cons.mp h
    rw [letsL, List.append_eq_nil_iff] at e
    rcases List.mem_cons.mp hp with r | r
    · subst r; exact tree_hollow t _ a e.1
    · exact trees_hollow ts ps b e.2 p r
end
/-! ways -/
def WayOf (F H : Str → Prop) : List Str → List Bool → Prop
  | [], [] => True
  | p :: ps, w :: ws => (w = true → F p) ∧ (w = false → H p) ∧ WayOf F H ps ws
  | [], _ :: _ => False
  | _ :: _, [] => False
theorem wayStep_mem {full : List (Str × Bool)} {hollow : List (Str × Tr)} {p : Str} {a x : List Bool} : x ∈ wayStep full hollow p a ↔ ∃ b : Bool, x = a ++ [b] ∧ (b = true → (isLetter p || dhas full p) = true) ∧ (b = false → dhas hollow p = true) := by
  unfold wayStep
  rw [List.mem_append]
  constructor
  · rintro (h | h)
    · split at h
      · rename_i c
        simp at h; exact ⟨true, h, fun _ => c, fun e => by cases e⟩
      · cases h
    · split at h
      · rename_i c
        simp at h; exact ⟨false, h, (fun e => by cases e), fun _ => c⟩
      · cases h
  · rintro ⟨b, e, h1, h2⟩
    cases b with
    | true => left; rw [if_pos (h1 rfl)]; simp [e]
    | false => right; rw [if_pos (h2 rfl)]; simp [e]
theorem ways_fold {full : List (Str × Bool)} {hollow : List (Str × Tr)} : ∀ (ps : List Str) (init : List (List Bool)) (x : List Bool), x ∈ ps.foldl (fun ws part => ws.flatMap (wayStep full hollow part)) init ↔ ∃ a ∈ init, ∃ b, WayOf (fun p => (isLetter p || dhas full p) = true) (fun p => dhas hollow p = true) ps b ∧ x = a ++ b
  | [], init, x => by
    rw [List.foldl_nil]
    constructor
    · intro h; exact ⟨x, h, [], trivial, by simp⟩
    · rintro ⟨a, ha, b, hb, e⟩
      cases b with
      | nil => rw [e, List.append_nil]; exact ha
      | cons y b => exact hb.elim
  | p :: ps, init, x => by
    rw [List.foldl_cons, ways_fold ps]
    constructor
    · rintro ⟨a, ha, b, hb, e⟩
      obtain ⟨c, hc, ha⟩ := List.mem_flatMap.mp ha
      obtain ⟨y, e2, k1, k2⟩ := wayStep_mem.mp ha
      exact ⟨c, hc, y :: b, ⟨k1, k2, hb⟩, by rw [e, e2]; simp⟩
    · rintro ⟨a, ha, b, hb, e⟩
      cases b with
      | nil => exact hb.elim
      | cons y b =>
        obtain ⟨k1, k2, hb⟩ := hb
        exact ⟨a ++ [y], List.mem_flatMap.mpr ⟨a, ha, wayStep_mem.mpr ⟨y, rfl, k1, k2⟩⟩, b, hb, by rw [e]; simp⟩
theorem ways_iff {ps : List Str} {full : List (Str × Bool)} {hollow : List (Str × Tr)} {x : List Bool} : x ∈ ways ps full hollow ↔ WayOf (fun p => (isLetter p || dhas full p) = true) (fun p => dhas hollow p = true) ps x := by
  unfold ways
  rw [ways_fold]
  constructor
  · rintro ⟨a, ha, b, hb, e⟩
    simp at ha; subst ha
    rw [e]; exact hb
  · intro h; exact ⟨[], by simp, x, h, rfl⟩
theorem WayOf.len {F H : Str → Prop} : ∀ {ps : List Str} {ws : List Bool}, WayOf F H ps ws → ws.length = ps.length
  | [], [], _ => rfl
  | _ :: _, _ :: _, h => by rw [List.length_cons, List.length_cons, WayOf.len h.2.2]
  | [], _ :: _, h => h.elim
  | _ :: _, [], h => h.elim
end Rw

/-! RwI4: plain laws of emptying -/
namespace Rw
open PySem (Str)
/-! full names -/
abbrev Ful (g : Gram) (p : Str) : Prop := isLetter p = true ∨ p ∈ grow okFull g
theorem fullNames_has {g : Gram} {p : Str} : dhas (fullNames g) p = true ↔ p ∈ grow okFull g := by
  rw [dhas_mem]; unfold fullNames
  rw [List.map_map]
  have : ((fun x : Str × Bool => x.1) ∘ fun k => (k, true)) = id := rfl
  rw [this, List.map_id]
theorem way_full {g : Gram} {p : Str} : (isLetter p || dhas (fullNames g) p) = true ↔ Ful g p := by
  rw [Bool.or_eq_true, fullNames_has]
theorem full_rule {g : Gram} {r : Rule} (hr : r ∈ g) {p : Str} (hp : p ∈ r.2) (h : Ful g p) : r.1 ∈ grow okFull g := by
  refine grow_closed (ok := okFull) r hr ?_
  unfold okFull
  rw [List.any_eq_true]
  exact ⟨p, hp, by rw [Bool.or_eq_true, decide_eq_true_eq]; exact h⟩
mutual
theorem tree_full {g : Gram} : ∀ (t : Tr) (p : Str), fitsB g p t = true → lets t ≠ [] → Ful g p
  | .leaf s, p, h, _ => .inl (fits_leaf.mp h).2
  | .node n ts, p, h, e => by
    obtain ⟨h1, h2, h3, h4⟩ := fits_node.mp h
    rw [lets] at e
    obtain ⟨q, hq, hf⟩ := trees_full ts _ h4 e
    exact .inr (h3 ▸ full_rule (gi_mem h1 h2) hq hf)
theorem trees_full {g : Gram} : ∀ (ts : List Tr) (ps : List Str), fitsL g ps ts = true → letsL ts ≠ [] → ∃ p ∈ ps, Ful g p
  | [], [], _, e => by rw [letsL] at e; exact absurd rfl e
  | [], _ :: _, h, _ => by rw [fitsL] at h; cases h
  | _ :: _, [], h, _ => by rw [fitsL] at h; cases h
  | t :: ts, p :: ps, h, e => by
    obtain ⟨a, b⟩ := fits_cons.mp h
    by_cases c : lets t = []
    · rw [letsL, c, List.nil_append] at e
      obtain ⟨q, hq, hf⟩ := trees_full ts ps b e
      exact ⟨q, by simp [hq], hf⟩
    · exact ⟨p, by simp, tree_full t p a c⟩
end
/-- trees for all parts, that of one part telling a letter -/
theorem fits_some {g : Gram} : ∀ {ps : List Str} {p : Str}, (∀ q ∈ ps, Mk g q) → p ∈ ps → (∃ t, fitsB g p t = true ∧ lets t ≠ []) → ∃ ts, fitsL g ps ts = true ∧ letsL ts ≠ []
  | [], _, _, hp, _ => by cases hp
  | q :: ps, p, h, hp, ht => by
    rcases List.mem_cons.mp hp with e | e
    · subst e
      obtain ⟨t, h1, h2⟩ := ht
      obtain ⟨ts, hts⟩ := fits_all (g := g) (ps := ps) fun x hx => h x (by simp [hx])
      exact ⟨t :: ts, fits_cons.mpr ⟨h1, hts⟩, by rw [letsL]; intro k; exact h2 (List.append_eq_nil_iff.mp k).1⟩
    · obtain ⟨ts, h1, h2⟩ := fits_some (ps := ps) (fun x hx => h x (by simp [hx])) e ht
      obtain ⟨t, h3⟩ := h q (by simp)
      exact ⟨t :: ts, fits_cons.mpr ⟨h3, h1⟩, by rw [letsL]; intro k; exact h2 (List.append_eq_nil_iff.mp k).2⟩
/-- all names make some text -/
abbrev AllMk (g : Gram) : Prop := ∀ r ∈ g, r.1 ∈ grow okMake g
theorem allMake_iff {g : Gram} : allMake g = true ↔ AllMk g := by
  unfold allMake
  rw [List.all_eq_true]
  exact forall_congr' fun r => forall_congr' fun _ => by rw [decide_eq_true_eq, makesBy_mem]
theorem AllMk.part {g : Gram} (A : AllMk g) (W : WF g) {r : Rule} (hr : r ∈ g) {p : Str} (hp : p ∈ r.2) : Mk g p := by
  rcases W.part r hr p hp with e | ⟨_, e⟩
  · exact ⟨_, fits_letter e⟩
  · obtain ⟨q, hq, e⟩ := head_mem.mp e
    exact make_tree p (e ▸ A q hq)
theorem full_tree {g : Gram} (W : WF g) (A : AllMk g) : ∀ k ∈ grow okFull g, ∃ t, fitsB g k t = true ∧ lets t ≠ [] := grow_ind (fun k => ∃ t, fitsB g k t = true ∧ lets t ≠ []) fun ks r hr h _ ho => by
  unfold okFull at ho
  obtain ⟨p, hp, ho⟩ := List.any_eq_true.mp ho
  rw [Bool.or_eq_true, decide_eq_true_eq] at ho
  obtain ⟨ts, h1, h2⟩ := fits_some (g := g) (fun q hq => A.part W hr hq) hp (by
    rcases ho with e | e
    · refine ⟨_, fits_letter e, ?_⟩
      obtain ⟨c, hc⟩ := letter_cps e
      rw [lets, hc]; simp
    · exact h p e)
  obtain ⟨t, h3, h4⟩ := fits_rule hr h1
  exact ⟨t, h3, by rw [h4]; exact h2⟩
/-- a part that is not full is hollow -/
theorem part_hollow {g : Gram} (W : WF g) (A : AllMk g) {r : Rule} (hr : r ∈ g) {p : Str} (hp : p ∈ r.2) (hf : ¬ Ful g p) : dhas (emptyTrees g) p = true := by
  obtain ⟨t, ht⟩ := A.part W hr hp
  by_cases c : lets t = []
  · exact tree_hollow t p ht c
  · exact absurd (tree_full t p ht c) hf
/-! the rules found -/
abbrev EWay (g : Gram) : List Str → List Bool → Prop := WayOf (Ful g) (fun p => dhas (emptyTrees g) p = true)
theorem eway_iff {g : Gram} {ps : List Str} {x : List Bool} : x ∈ ways ps (fullNames g) (emptyTrees g) ↔ EWay g ps x := by
  rw [ways_iff]
  have e : (fun p => (isLetter p || dhas (fullNames g) p) = true) = Ful g := funext fun p => propext way_full
  rw [e]
abbrev eKey (x : (Int × Rule) × List Bool) : Rule := (x.1.2.1, keptParts x.1.2.2 x.2)
abbrev eOk (x : (Int × Rule) × List Bool) : Bool := decide (keptParts x.1.2.2 x.2 ≠ []) && decide (keptParts x.1.2.2 x.2 ≠ [x.1.2.1])
abbrev eVal (g : Gram) (x : (Int × Rule) × List Bool) : Entry := (x.1.1, places (emptyTrees g) x.1.2.2 x.2 0)
def eAll (g : Gram) : List ((Int × Rule) × List Bool) := (enumI g).flatMap fun nr => (ways nr.2.2 (fullNames g) (emptyTrees g)).map fun w => (nr, w)
theorem emptyFound_eq (g : Gram) : emptyFound g (fullNames g) (emptyTrees g) = (eAll g).foldl (putStep eOk eKey (eVal g)) [] := by
  unfold emptyFound eAll
  rw [List.foldl_flatMap]
  congr 1
  funext found nr
  rw [List.foldl_map]
  congr 1
theorem eAll_mem {g : Gram} {x : (Int × Rule) × List Bool} : x ∈ eAll g ↔ 0 ≤ x.1.1 ∧ x.1.1 < g.length ∧ gi g x.1.1 = x.1.2 ∧ EWay g x.1.2.2 x.2 := by
  unfold eAll
  rw [List.mem_flatMap]
  constructor
  · rintro ⟨nr, h1, h2⟩
    obtain ⟨w, hw, rfl⟩ := List.mem_map.mp h2
    obtain ⟨a, b, c⟩ := enumI_iff.mp h1
    exact ⟨a, b, c, eway_iff.mp hw⟩
  · rintro ⟨a, b, c, d⟩
    exact ⟨x.1, enumI_iff.mpr ⟨a, b, c⟩, List.mem_map.mpr ⟨x.2, eway_iff.mpr d, rfl⟩⟩
structure EmpOk (g f : Gram) (b : List Entry) : Prop where
  all : AllMk g
  le : f.length ≤ 40
  nd : f.Nodup
  len : b.length = f.length
  snd : ∀ n : Int, 0 ≤ n → n < f.length → ∃ way, 0 ≤ (gi b n).1 ∧ (gi b n).1 < g.length ∧ EWay g (gi g (gi b n).1).2 way ∧ gi f n = ((gi g (gi b n).1).1, keptParts (gi g (gi b n).1).2 way) ∧ (gi b n).2 = places (emptyTrees g) (gi g (gi b n).1).2 way 0 ∧ (gi f n).2 ≠ [] ∧ (gi f n).2 ≠ [(gi f n).1]
  cpl : ∀ r ∈ g, ∀ way, EWay g r.2 way → keptParts r.2 way ≠ [] → keptParts r.2 way ≠ [r.1] → (r.1, keptParts r.2 way) ∈ f
  first : (∃ r ∈ f, r.1 = (gi g 0).1) → (gi f 0).1 = (gi g 0).1
  full : (gi g 0).1 ∈ grow okFull g
theorem emp_ok {g f : Gram} {b : List Entry} (h : emptied g = .ok (f, b)) : EmpOk g f b := by
  unfold emptied at h
  split at h
  · rename_i c
    rw [Bool.and_eq_true, allMake_iff, fullNames_has] at c
    rw [emptyFound_eq] at h
    have T := tell_ok (putFold_nd eOk eKey (eVal g) (eAll g) [] List.nodup_nil) h
    refine ⟨c.1, T.le, T.nd, T.len, fun n h0 h1 => ?_, fun r hr way hw k1 k2 => ?_, T.first, c.2⟩
    · rcases putFold_mem eOk eKey (eVal g) (eAll g) [] _ (T.get n h0 h1) with q | ⟨x, hx, hc, e⟩
      · cases q
      · obtain ⟨a1, a2, a3, a4⟩ := eAll_mem.mp hx
        injection e with e1 e2
        rw [Bool.and_eq_true, decide_eq_true_eq, decide_eq_true_eq] at hc
        have f1 : (gi b n).1 = x.1.1 := by rw [e2]
        have f2 : (gi b n).2 = places (emptyTrees g) x.1.2.2 x.2 0 := by rw [e2]
        rw [f1, f2, e1, a3]
        exact ⟨x.2, a1, a2, a4, rfl, rfl, hc.1, hc.2⟩
    · obtain ⟨i, a1, a2, a3⟩ := mem_gi hr
      obtain ⟨v, hv⟩ := dhas_iff.mp (putFold_has eOk eKey (eVal g) (eAll g) [] ((i, r), way) (eAll_mem.mpr ⟨a1, a2, a3, hw⟩) (by
        rw [Bool.and_eq_true, decide_eq_true_eq, decide_eq_true_eq]; exact ⟨k1, k2⟩))
      exact (T.mem _).mpr ⟨v, hv⟩
  · cases h
end Rw

/-! RwI5: plain laws of emptying: trees led and laid -/
namespace Rw
open PySem (Str)
theorem kept_cons {p : Str} {ps : List Str} {w : Bool} {ws : List Bool} : keptParts (p :: ps) (w :: ws) = if w then p :: keptParts ps ws else keptParts ps ws := by
  unfold keptParts
  rw [List.zip_cons_cons, List.filter_cons]
  cases w <;> rfl
theorem kept_nil {ws : List Bool} : keptParts [] ws = [] := by
  unfold keptParts; simp
theorem kept_mem' {F H : Str → Prop} : ∀ {ps : List Str} {ws : List Bool}, WayOf F H ps ws → ∀ p ∈ keptParts ps ws, p ∈ ps ∧ F p
  | [], [], _, p, hp => by rw [kept_nil] at hp; cases hp
  | q :: ps, w :: ws, h, p, hp => by
    rw [kept_cons] at hp
    cases w with
    | true =>
      rw [if_pos rfl] at hp
      rcases List.mem_cons.mp hp with e | e
      · subst e; exact ⟨by simp, h.1 rfl⟩
      · obtain ⟨a, b⟩ := kept_mem' h.2.2 p e
        exact ⟨by simp [a], b⟩
    | false =>
      obtain ⟨a, b⟩ := kept_mem' h.2.2 p (by simpa using hp)
      exact ⟨by simp [a], b⟩
  | [], _ :: _, h, _, _ => h.elim
  | _ :: _, [], h, _, _ => h.elim
/-- a way that keeps what is wanted, and else what may not be left -/
theorem way_make {F H : Str → Prop} (S : Str → Prop) : ∀ {ps : List Str}, (∀ p ∈ ps, F p ∨ H p) → (∀ p ∈ ps, S p → F p) → ∃ ws, WayOf F H ps ws ∧ ∀ p ∈ ps, S p → p ∈ keptParts ps ws
  | [], _, _ => ⟨[], trivial, fun p h => by cases h⟩
  | p :: ps, h, hs => by
    classical
    obtain ⟨ws, a, b⟩ := way_make S (ps := ps) (fun q hq => h q (by simp [hq])) fun q hq => hs q (by simp [hq])
    by_cases c : F p
    · refine ⟨true :: ws, ⟨fun _ => c, (fun e => by cases e), a⟩, fun q hq hS => ?_⟩
      rw [kept_cons, if_pos rfl]
      rcases List.mem_cons.mp hq with e | e
      · subst e; simp
      · simp [b q e hS]
    · refine ⟨false :: ws, ⟨(fun e => by cases e), fun _ => (h p (by simp)).resolve_left c, a⟩, fun q hq hS => ?_⟩
      rw [kept_cons]
      rcases List.mem_cons.mp hq with e | e
      · subst e; exact absurd (hs q (by simp) hS) c
      · simpa using b q e hS
section
variable {g f : Gram} {b : List Entry}
theorem EmpOk.rule (W : WF g) (E : EmpOk g f b) {r : Rule} (h : r ∈ f) : ∃ q ∈ g, ∃ way, EWay g q.2 way ∧ r = (q.1, keptParts q.2 way) ∧ r.2 ≠ [] := by
  obtain ⟨n, h0, h1, e⟩ := mem_gi h
  obtain ⟨way, a1, a2, a3, a4, a5, a6, a7⟩ := E.snd n h0 h1
  refine ⟨_, gi_mem a1 a2, way, a3, ?_, ?_⟩
  · rw [← e, a4]
  · rw [← e]; exact a6
/-- each full name has a rule -/
theorem EmpOk.has (W : WF g) (E : EmpOk g f b) : ∀ k ∈ grow okFull g, ∃ r ∈ f, r.1 = k := by
  have := grow_ind (ok := okFull) (g := g) (fun k => k ∈ grow okFull g ∧ ∃ r ∈ f, r.1 = k) fun ks r hr h hn ho => by
    unfold okFull at ho
    obtain ⟨p, hp, ho⟩ := List.any_eq_true.mp ho
    rw [Bool.or_eq_true, decide_eq_true_eq] at ho
    have hF : Ful g p := ho.imp id fun e => (h p e).1
    have hne : p ≠ r.1 := by
      rcases ho with e | e
      · intro q; rw [q, name_letter' (W.name r hr)] at e; cases e
      · intro q; rw [q] at e; exact hn e
    obtain ⟨ws, a, c⟩ := way_make (F := Ful g) (H := fun p => dhas (emptyTrees g) p = true) (fun q => q = p) (ps := r.2) (fun q hq => by
      by_cases c : Ful g q
      · exact .inl c
      · exact .inr (part_hollow W E.all hr hq c)) (fun q _ e => e ▸ hF)
    have hk := c p hp rfl
    refine ⟨full_rule hr hp hF, _, E.cpl r hr ws a (fun e => ?_) (fun e => ?_), rfl⟩
    · rw [e] at hk; cases hk
    · rw [e] at hk; simp at hk; exact hne hk
  exact fun k hk => (this k hk).2
theorem EmpOk.head0 (W : WF g) (E : EmpOk g f b) : (gi f 0).1 = (gi g 0).1 := E.first (E.has W _ E.full)
theorem EmpOk.wf (W : WF g) (E : EmpOk g f b) : WF f where
  pos := by
    obtain ⟨r, hr, _⟩ := E.has W _ E.full
    cases hf : f with
    | nil => rw [hf] at hr; cases hr
    | cons x l => simp
  le := E.le
  nd := E.nd
  name := fun r h => by
    obtain ⟨q, hq, way, _, e, _⟩ := E.rule W h
    rw [e]; exact W.name q hq
  six := fun r h => by
    obtain ⟨q, hq, way, _, e, _⟩ := E.rule W h
    rw [e]; exact Nat.le_trans (keptParts_len _ _) (W.six q hq)
  part := fun r h p hp => by
    obtain ⟨q, hq, way, hw, e, _⟩ := E.rule W h
    rw [e] at hp
    obtain ⟨hp, hF⟩ := kept_mem' hw p hp
    rcases W.part q hq p hp with c | ⟨c, _⟩
    · exact .inl c
    · refine .inr ⟨c, head_mem.mpr (E.has W p (hF.resolve_left fun e => ?_))⟩
      rw [name_letter' c] at e; cases e
/-! trees led -/
theorem places_lead {book : List Entry} : ∀ (ps : List Str) (ws : List Bool) (place : Nat) (ts : List Tr), EWay g ps ws → place + (keptParts ps ws).length = ts.length → fitsL g (keptParts ps ws) ((leadEL book ts).drop place) = true →
    fitsL g ps ((places (emptyTrees g) ps ws place).map (plLead book ts)) = true ∧ letsL ((places (emptyTrees g) ps ws place).map (plLead book ts)) = letsL ((leadEL book ts).drop place) ∧ depthL ((places (emptyTrees g) ps ws place).map (plLead book ts)) ≤ max (depthL (leadEL book ts)) (emptyTrees g).length ∧
    ∀ pl ∈ places (emptyTrees g) ps ws place, match pl with
      | .inl k => 0 ≤ k ∧ k < ts.length
      | .inr t => isLeaf t = false
  | [], [], place, ts, _, hl, h => by
    rw [kept_nil] at hl
    have : (leadEL book ts).drop place = [] := by
      rw [List.drop_eq_nil_iff, leadEL_map, List.length_map]; simp at hl; omega
    rw [this]
    have e : places (emptyTrees g) [] [] place = [] := by simp [places]
    rw [e]
    refine ⟨fits_nil.mpr rfl, rfl, by rw [List.map_nil, depthL]; omega, fun pl hpl => by cases hpl⟩
  | p :: ps, w :: ws, place, ts, hw, hl, h => by
    rw [kept_cons] at hl h
    cases w with
    | true =>
      rw [if_pos rfl] at hl h
      rw [List.length_cons] at hl
      have hlen : (leadEL book ts).length = ts.length := by rw [leadEL_map, List.length_map]
      have hp : place < (leadEL book ts).length := by omega
      rw [List.drop_eq_getElem_cons hp] at h ⊢
      obtain ⟨h1, h2⟩ := fits_cons.mp h
      obtain ⟨k1, k2, k3, k4⟩ := places_lead ps ws (place + 1) ts hw.2.2 (by omega) h2
      rw [places, if_pos rfl]
      have e : ((place : Int) + 1) = ((place + 1 : Nat) : Int) := by omega
      rw [e, List.map_cons]
      have e2 : plLead book ts (.inl (place : Int)) = (leadEL book ts)[place] := gi_get hp
      rw [e2, letsL, letsL, depthL, k2]
      refine ⟨fits_cons.mpr ⟨h1, k1⟩, rfl, ?_, fun pl hpl => ?_⟩
      · have := depth_le (List.getElem_mem hp)
        omega
      · rcases List.mem_cons.mp hpl with q | q
        · subst q; show (0 : Int) ≤ place ∧ (place : Int) < ts.length; omega
        · exact k4 pl q
    | false =>
      rw [if_neg (by simp)] at hl h
      obtain ⟨k1, k2, k3, k4⟩ := places_lead ps ws place ts hw.2.2 hl h
      obtain ⟨a1, a2, a3, a4⟩ := (emptyTrees_ok g).1.fit _ (dget_has (hw.2.1 rfl))
      rw [places, if_neg (by simp), List.map_cons]
      have e2 : plLead book ts (.inr ((dget (emptyTrees g) p).getD default)) = (dget (emptyTrees g) p).getD default := rfl
      have a2 : lets ((dget (emptyTrees g) p).getD default) = [] := a2
      have a4 : depth ((dget (emptyTrees g) p).getD default) ≤ (emptyTrees g).length := a4
      rw [e2, letsL, depthL, a2, k2]
      refine ⟨fits_cons.mpr ⟨a1, k1⟩, rfl, by omega, fun pl hpl => ?_⟩
      rcases List.mem_cons.mp hpl with q | q
      · subst q; exact a3
      · exact k4 pl q
  | [], _ :: _, _, _, h, _, _ => h.elim
  | _ :: _, [], _, _, h, _, _ => h.elim
mutual
theorem EmpOk.lead (W : WF g) (E : EmpOk g f b) : ∀ (t : Tr) (p : Str), fitsB f p t = true → fitsB g p (leadE b t) = true ∧ lets (leadE b t) = lets t ∧ depth (leadE b t) ≤ depth t + (emptyTrees g).length ∧ inE b t = true
  | .leaf s, p, h => by
    rw [leadE]
    exact ⟨fits_leaf.mpr (fits_leaf.mp h), rfl, by omega, by rw [inE]⟩
  | .node n ts, p, h => by
    obtain ⟨h1, h2, h3, h4⟩ := fits_node.mp h
    obtain ⟨way, a1, a2, a3, a4, a5, a6, a7⟩ := E.snd n h1 h2
    obtain ⟨k1, k2, k3, k4⟩ := E.leadL W ts _ h4
    rw [a4] at h3 h4 k1
    have hlen := fitsL_len h4
    obtain ⟨m1, m2, m3, m4⟩ := places_lead (book := b) (gi g (gi b n).1).2 way 0 ts a3 (by rw [Nat.zero_add]; exact hlen) (by rw [List.drop_zero]; exact k1)
    rw [List.drop_zero, k2] at m2
    have e0 : ((0 : Nat) : Int) = 0 := rfl
    rw [e0, ← a5] at m1 m2 m3 m4
    rw [leadE_node]
    refine ⟨fits_node.mpr ⟨a1, a2, h3, m1⟩, by rw [lets, lets]; exact m2, by rw [depth, depth]; omega, ?_⟩
    rw [inE, k4, Bool.and_true, Bool.and_eq_true, Bool.and_eq_true, Bool.and_eq_true, decide_eq_true_eq, decide_eq_true_eq, decide_eq_true_eq, List.all_eq_true]
    refine ⟨⟨⟨h1, by rw [E.len]; exact h2⟩, ?_⟩, fun pl hpl => ?_⟩
    · rw [a5]
      have := places_len (emptyTrees g) (gi g (gi b n).1).2 way 0
      have := W.six _ (gi_mem a1 a2)
      omega
    · have := m4 pl hpl
      cases pl with
      | inl k => simpa using this
      | inr t => simpa using this
theorem EmpOk.leadL (W : WF g) (E : EmpOk g f b) : ∀ (ts : List Tr) (ps : List Str), fitsL f ps ts = true → fitsL g ps (leadEL b ts) = true ∧ letsL (leadEL b ts) = letsL ts ∧ depthL (leadEL b ts) ≤ depthL ts + (emptyTrees g).length ∧ inEL b ts = true
  | [], [], _ => by rw [leadEL]; exact ⟨by rw [fitsL], rfl, by omega, by rw [inEL]⟩
  | [], _ :: _, h => by rw [fitsL] at h; cases h
  | _ :: _, [], h => by rw [fitsL] at h; cases h
  | t :: ts, p :: ps, h => by
    obtain ⟨h1, h2⟩ := fits_cons.mp h
    obtain ⟨a1, a2, a3, a4⟩ := E.lead W t p h1
    obtain ⟨b1, b2, b3, b4⟩ := E.leadL W ts ps h2
    rw [leadEL]
    exact ⟨fits_cons.mpr ⟨a1, b1⟩, by rw [letsL, letsL, a2, b2], by rw [depthL, depthL]; omega, by rw [inEL, a4, b4]; rfl⟩
end
mutual
/-- a tree that tells a letter stands in the emptied grammar, too -/
theorem EmpOk.lay (W : WF g) (E : EmpOk g f b) : ∀ (t : Tr) (p : Str), fitsB g p t = true → lets t ≠ [] → ∃ u, fitsB f p u = true ∧ lets u = lets t
  | .leaf s, p, h, _ => ⟨.leaf s, fits_leaf.mpr (fits_leaf.mp h), rfl⟩
  | .node n ts, p, h, hne => by
    obtain ⟨h1, h2, h3, h4⟩ := fits_node.mp h
    obtain ⟨ws, us, a1, a2, a3⟩ := E.layL W ts _ h4
    rw [lets] at hne ⊢
    by_cases c1 : keptParts (gi g n).2 ws = []
    · rw [c1] at a2
      rw [fits_nil.mp a2, letsL] at a3
      exact absurd a3.symm hne
    · by_cases c2 : keptParts (gi g n).2 ws = [(gi g n).1]
      · rw [c2] at a2
        obtain ⟨u, vs, e, b1, b2⟩ := fits_uncons a2
        rw [e, fits_nil.mp b2, letsL, letsL, List.append_nil] at a3
        exact ⟨u, h3 ▸ b1, a3⟩
      · obtain ⟨u, b1, b2⟩ := fits_rule (E.cpl _ (gi_mem h1 h2) ws a1 c1 c2) a2
        exact ⟨u, h3 ▸ b1, by rw [b2, a3]⟩
theorem EmpOk.layL (W : WF g) (E : EmpOk g f b) : ∀ (ts : List Tr) (ps : List Str), fitsL g ps ts = true → ∃ ws us, EWay g ps ws ∧ fitsL f (keptParts ps ws) us = true ∧ letsL us = letsL ts
  | [], [], _ => ⟨[], [], trivial, by rw [kept_nil, fitsL], rfl⟩
  | [], _ :: _, h => by rw [fitsL] at h; cases h
  | _ :: _, [], h => by rw [fitsL] at h; cases h
  | t :: ts, p :: ps, h => by
    obtain ⟨h1, h2⟩ := fits_cons.mp h
    obtain ⟨ws, us, a1, a2, a3⟩ := E.layL W ts ps h2
    by_cases c : lets t = []
    · refine ⟨false :: ws, us, ⟨(fun e => by cases e), fun _ => tree_hollow t p h1 c, a1⟩, ?_, by rw [letsL, c, a3]; rfl⟩
      rw [kept_cons]; simpa using a2
    · obtain ⟨u, b1, b2⟩ := E.lay W t p h1 c
      refine ⟨true :: ws, u :: us, ⟨fun _ => tree_full t p h1 c, (fun e => by cases e), a1⟩, ?_, by rw [letsL, letsL, b2, a3]⟩
      rw [kept_cons, if_pos rfl]
      exact fits_cons.mpr ⟨b1, a2⟩
end
/-- no tree of the emptied grammar tells the empty text -/
theorem EmpOk.filled (W : WF g) (E : EmpOk g f b) : ∀ (t : Tr) (p : Str), fitsB f p t = true → lets t ≠ []
  | .leaf s, p, h => by
    obtain ⟨rfl, hl⟩ := fits_leaf.mp h
    obtain ⟨c, hc⟩ := letter_cps hl
    rw [lets, hc]; simp
  | .node n ts, p, h => by
    obtain ⟨h1, h2, h3, h4⟩ := fits_node.mp h
    obtain ⟨way, _, _, _, _, _, a6, _⟩ := E.snd n h1 h2
    rw [lets]
    match hp : (gi f n).2, a6 with
    | q :: ps, _ =>
      rw [hp] at h4
      obtain ⟨u, us, e, b1, b2⟩ := fits_uncons h4
      subst e
      rw [letsL]
      intro k
      exact E.filled W u q b1 (List.append_eq_nil_iff.mp k).1
theorem EmpOk.makes (W : WF g) (E : EmpOk g f b) : AllMk f := by
  intro r hr
  obtain ⟨q, hq, way, hw, e, hne⟩ := E.rule W hr
  have hfull : q.1 ∈ grow okFull g := by
    rw [e] at hne
    cases hk : keptParts q.2 way with
    | nil => exact absurd hk hne
    | cons p ps =>
      obtain ⟨a, c⟩ := kept_mem' hw p (by rw [hk]; simp)
      exact full_rule hq a c
  obtain ⟨t, h1, h2⟩ := full_tree W E.all _ hfull
  obtain ⟨u, h3, _⟩ := E.lay W t _ h1 h2
  rw [e]
  rcases tree_make u _ h3 with k | k
  · rw [name_letter' (W.name q hq)] at k; cases k
  · exact k
end
end Rw

/-! RwI6: plain laws of lone rules: chains -/
namespace Rw
open PySem (Str)
/-- a row of lone rules from a name -/
inductive LP (g : Gram) (name : Str) : List Int → Str → Prop where
  | nil : LP g name [] name
  | snoc {c : List Int} {here : Str} {i : Int} : LP g name c here → 0 ≤ i → i < g.length → (gi g i).1 = here → isLone (gi g i) = true → LP g name (c ++ [i]) (gi (gi g i).2 0)
theorem lone_parts {r : Rule} (h : isLone r = true) : r.2 = [gi r.2 0] ∧ isLetter (gi r.2 0) = false := by
  unfold isLone at h
  rw [Bool.and_eq_true, decide_eq_true_eq, Bool.not_eq_true'] at h
  refine ⟨?_, h.2⟩
  match hr : r.2, h.1 with
  | [p], _ => rfl
theorem numbersBy_iff {g : Gram} {n : Str} {i : Int} : i ∈ numbersBy g n ↔ 0 ≤ i ∧ i < g.length ∧ (gi g i).1 = n := by
  refine ⟨numbersBy_mem, fun ⟨a, b, c⟩ => ?_⟩
  exact List.mem_map.mpr ⟨(i, gi g i), List.mem_filter.mpr ⟨enumI_iff.mpr ⟨a, b, rfl⟩, by simpa using c⟩, rfl⟩
structure ChC (g : Gram) (name : Str) (st : Chains × List Str) (k : Nat) : Prop where
  ci : ChI g name st
  lp : ∀ kv ∈ st.1, LP g name kv.2 kv.1
  me : dhas st.1 name = true
  le : k ≤ st.2.length
  cl : ∀ (j : Nat) (here : Str), j < k → st.2[j]? = some here → ∀ i : Int, 0 ≤ i → i < g.length → (gi g i).1 = here → isLone (gi g i) = true → dhas st.1 (gi (gi g i).2 0) = true
theorem chStep_cases (g : Gram) (here : Str) (st : Chains × List Str) (i : Int) : (chStep g here st i = st ∧ (isLone (gi g i) = true → dhas st.1 (gi (gi g i).2 0) = true)) ∨ (isLone (gi g i) = true ∧ dhas st.1 (gi (gi g i).2 0) = false ∧ chStep g here st i = (st.1 ++ [(gi (gi g i).2 0, (dget st.1 here).getD [] ++ [i])], st.2 ++ [gi (gi g i).2 0])) := by
  unfold chStep
  cases hl : isLone (gi g i) with
  | false => left; exact ⟨by simp, by simp⟩
  | true =>
    cases hd : dhas st.1 (gi (gi g i).2 0) with
    | true => left; exact ⟨by simp, by simp⟩
    | false => right; exact ⟨rfl, rfl, by simp [dput_new hd]⟩
/-- within a turn: here is looked at, some of its numbers are done -/
structure ChT (g : Gram) (name here : Str) (st0 st : Chains × List Str) (done : List Int) : Prop where
  ci : ChI g name st
  lp : ∀ kv ∈ st.1, LP g name kv.2 kv.1
  has : dhas st.1 here = true
  mono : ∀ k, dhas st0.1 k = true → dhas st.1 k = true
  ext : ∃ m, st.2 = st0.2 ++ m
  cl : ∀ i ∈ done, isLone (gi g i) = true → dhas st.1 (gi (gi g i).2 0) = true
theorem ChT.step {g : Gram} {name here : Str} {st0 st : Chains × List Str} {done : List Int} (T : ChT g name here st0 st done) {i : Int} (h : i ∈ numbersBy g here) : ChT g name here st0 (chStep g here st i) (done ++ [i]) := by
  obtain ⟨h0, h1, h2⟩ := numbersBy_mem h
  have hm : ∀ k, dhas st.1 k = true → dhas (chStep g here st i).1 k = true := fun k hk => chStep_has hk
  have ci := T.ci.step (here := here) h0 h1
  refine ⟨ci, ?_, hm _ T.has, fun k hk => hm k (T.mono k hk), ?_, fun j hj hl => ?_⟩
  · rcases chStep_cases g here st i with ⟨e, _⟩ | ⟨hl, hd, e⟩
    · rw [e]; exact T.lp
    · rw [e]
      intro kv hkv
      rcases List.mem_append.mp hkv with q | q
      · exact T.lp kv q
      · simp at q; subst q
        refine .snoc (here := here) ?_ h0 h1 h2 hl
        obtain ⟨v, hv⟩ := dhas_iff.mp T.has
        have := T.lp _ hv
        rw [dget_of_mem T.ci.nd hv]; exact this
  · obtain ⟨m, em⟩ := T.ext
    rcases chStep_cases g here st i with ⟨e, _⟩ | ⟨hl, hd, e⟩
    · rw [e]; exact ⟨m, em⟩
    · rw [e]; exact ⟨m ++ [gi (gi g i).2 0], by show st.2 ++ _ = _; rw [em]; simp⟩
  · rcases List.mem_append.mp hj with q | q
    · exact hm _ (T.cl j q hl)
    · simp at q; subst q
      rcases chStep_cases g here st j with ⟨e, k⟩ | ⟨_, hd, e⟩
      · rw [e]; exact k hl
      · rw [e]; exact dhas_iff.mpr ⟨(dget st.1 here).getD [] ++ [j], List.mem_append_right _ (by simp)⟩
theorem ChT.steps {g : Gram} {name here : Str} {st0 : Chains × List Str} : ∀ {ns : List Int} {st : Chains × List Str} {done : List Int}, ChT g name here st0 st done → (∀ i ∈ ns, i ∈ numbersBy g here) → ChT g name here st0 (ns.foldl (chStep g here) st) (done ++ ns)
  | [], st, done, T, _ => by rw [List.append_nil]; exact T
  | i :: ns, st, done, T, h => by
    rw [List.foldl_cons]
    have := ChT.steps (T.step (h i (by simp))) (ns := ns) fun j hj => h j (by simp [hj])
    rw [List.append_assoc] at this
    exact this
theorem chLoop_closed {g : Gram} {name : Str} : ∀ (n : Nat) (st : Chains × List Str) (k : Nat), ChC g name st k → g.length + 2 ≤ n + k → ∃ st', ChC g name st' st'.2.length ∧ chLoop g n st k = st'.1
  | 0, st, k, C, hl => by
    have h1 := C.ci.lenK
    have h2 := C.le
    rw [C.ci.qk, List.length_map] at h2
    omega
  | n + 1, st, k, C, hl => by
    rw [chLoop]
    cases hk : st.2[k]? with
    | none =>
      have := List.getElem?_eq_none_iff.mp hk
      have e : k = st.2.length := by have := C.le; omega
      exact ⟨st, e ▸ C, rfl⟩
    | some here =>
      have hk' := (List.getElem?_eq_some_iff.mp hk).1
      have hm : dhas st.1 here = true := by
        rw [dhas_mem, ← C.ci.qk]; exact List.mem_of_getElem? hk
      have T := ChT.steps (st0 := st) (ns := numbersBy g here) (done := []) ⟨C.ci, C.lp, hm, fun _ h => h, ⟨[], by simp⟩, fun i h => by cases h⟩ fun i h => h
      obtain ⟨m, em⟩ := T.ext
      refine chLoop_closed n _ (k + 1) ⟨T.ci, T.lp, T.mono _ C.me, by rw [em, List.length_append]; omega, fun j h hj hjh i h0 h1 h2 h3 => ?_⟩ (by omega)
      have hj' : j < st.2.length := by omega
      rw [em, List.getElem?_append_left hj'] at hjh
      by_cases c : j = k
      · rw [c, hk] at hjh
        injection hjh with hjh
        subst hjh
        exact T.cl i (by rw [List.nil_append]; exact numbersBy_iff.mpr ⟨h0, h1, h2⟩) h3
      · exact T.mono _ (C.cl j h (by omega) hjh i h0 h1 h2 h3)
structure ChOk (g : Gram) (name : Str) (ch : Chains) : Prop where
  nd : (ch.map (·.1)).Nodup
  lp : ∀ kv ∈ ch, LP g name kv.2 kv.1
  me : dhas ch name = true
  cl : ∀ i : Int, 0 ≤ i → i < g.length → dhas ch (gi g i).1 = true → isLone (gi g i) = true → dhas ch (gi (gi g i).2 0) = true
  len : ∀ kv ∈ ch, kv.2.length ≤ ch.length
theorem chains_all (g : Gram) (name : Str) : ChOk g name (chainsFrom g name) := by
  obtain ⟨st, C, e⟩ := chLoop_closed (name := name) (g.length + 2) ([(name, [])], [name]) 0 ⟨ChI.init (g := g), (fun kv h => by simp at h; subst h; exact .nil), dhas_iff.mpr ⟨[], by simp⟩, Nat.zero_le _, fun j h hj => by omega⟩ (by omega)
  unfold chainsFrom
  rw [e]
  refine ⟨C.ci.nd, C.lp, C.me, fun i h0 h1 h2 h3 => ?_, C.ci.len⟩
  rw [dhas_mem, ← C.ci.qk] at h2
  obtain ⟨j, hj, ej⟩ := List.mem_iff_getElem.mp h2
  exact C.cl j _ hj (by rw [List.getElem?_eq_getElem hj, ej]) i h0 h1 rfl h3
end Rw

/-! RwJ: plain laws of lone rules: straightened -/
namespace Rw
open PySem (Str)
abbrev SIx := Str × Str × Int
abbrev sKey (g : Gram) (x : SIx) : Rule := (x.1, (gi g x.2.2).2)
abbrev sOk (g : Gram) (x : SIx) : Bool := !isLone (x.1, (gi g x.2.2).2)
abbrev sVal (g : Gram) (x : SIx) : List Int := (dget (chainsFrom g x.1) x.2.1).getD [] ++ [x.2.2]
def sAll (g : Gram) : List SIx := (namesBy g).flatMap fun name => ((chainsFrom g name).map (·.1)).flatMap fun here => (numbersBy g here).map fun i => (name, here, i)
theorem strFound_eq (g : Gram) : strFound g = (sAll g).foldl (putStep (sOk g) (sKey g) (sVal g)) [] := by
  unfold strFound sAll
  rw [List.foldl_flatMap]
  congr 1
  funext found name
  unfold strName
  rw [List.foldl_flatMap]
  congr 1
  funext found here
  rw [List.foldl_map]
  congr 1
theorem sAll_mem {g : Gram} {x : SIx} : x ∈ sAll g ↔ x.1 ∈ namesBy g ∧ dhas (chainsFrom g x.1) x.2.1 = true ∧ 0 ≤ x.2.2 ∧ x.2.2 < g.length ∧ (gi g x.2.2).1 = x.2.1 := by
  unfold sAll
  rw [List.mem_flatMap]
  constructor
  · rintro ⟨name, h1, h2⟩
    obtain ⟨here, h3, h4⟩ := List.mem_flatMap.mp h2
    obtain ⟨i, h5, rfl⟩ := List.mem_map.mp h4
    obtain ⟨a, b, c⟩ := numbersBy_iff.mp h5
    exact ⟨h1, dhas_mem.mpr h3, a, b, c⟩
  · rintro ⟨h1, h2, h3, h4, h5⟩
    exact ⟨x.1, h1, List.mem_flatMap.mpr ⟨x.2.1, dhas_mem.mp h2, List.mem_map.mpr ⟨x.2.2, numbersBy_iff.mpr ⟨h3, h4, h5⟩, rfl⟩⟩⟩
theorem lp_has {g : Gram} {name : Str} {c : List Int} {here : Str} (h : LP g name c here) : dhas (chainsFrom g name) here = true := by
  have C := chains_all g name
  induction h with
  | nil => exact C.me
  | snoc _ h0 h1 h2 h3 ih => exact C.cl _ h0 h1 (by rw [h2]; exact ih) h3
theorem lone_eq {r : Rule} {n : Str} : isLone (n, r.2) = isLone r := rfl
/-- names of a grammar: all that chains come to -/
theorem chains_short {g : Gram} {name : Str} {M : List Str} (hn : name ∈ M) (hM : ∀ r ∈ g, isLone r = true → gi r.2 0 ∈ M) : (chainsFrom g name).length ≤ M.length := by
  have C := chains_all g name
  have : ∀ k ∈ (chainsFrom g name).map (·.1), k ∈ M := by
    intro k hk
    obtain ⟨kv, h1, rfl⟩ := List.mem_map.mp hk
    have := C.lp kv h1
    generalize kv.1 = a at this
    generalize kv.2 = d at this
    cases this with
    | nil => exact hn
    | snoc _ h0 h1 h2 h3 => exact hM _ (gi_mem h0 h1) h3
  have := nodup_le C.nd this
  rw [List.length_map] at this
  exact this
structure StrOk (g f : Gram) (b : List (List Int)) : Prop where
  all : AllMk g
  le : f.length ≤ 40
  nd : f.Nodup
  len : b.length = f.length
  snd : ∀ n : Int, 0 ≤ n → n < f.length → ∃ (name here : Str) (c : List Int) (i : Int), name ∈ namesBy g ∧ LP g name c here ∧ c.length ≤ (chainsFrom g name).length ∧ 0 ≤ i ∧ i < g.length ∧ (gi g i).1 = here ∧ isLone (gi g i) = false ∧ gi f n = (name, (gi g i).2) ∧ gi b n = c ++ [i]
  cpl : ∀ name ∈ namesBy g, ∀ c here, LP g name c here → ∀ i : Int, 0 ≤ i → i < g.length → (gi g i).1 = here → isLone (gi g i) = false → (name, (gi g i).2) ∈ f
  first : (∃ r ∈ f, r.1 = (gi g 0).1) → (gi f 0).1 = (gi g 0).1
theorem str_ok {g f : Gram} {b : List (List Int)} (h : straightened g = .ok (f, b)) : StrOk g f b := by
  unfold straightened at h
  split at h
  · rename_i c
    rw [allMake_iff] at c
    rw [strFound_eq] at h
    have T := tell_ok (putFold_nd (sOk g) (sKey g) (sVal g) (sAll g) [] List.nodup_nil) h
    refine ⟨c, T.le, T.nd, T.len, fun n h0 h1 => ?_, fun name hn c here hc i h0 h1 h2 h3 => ?_, T.first⟩
    · rcases putFold_mem (sOk g) (sKey g) (sVal g) (sAll g) [] _ (T.get n h0 h1) with q | ⟨x, hx, hc, e⟩
      · cases q
      · obtain ⟨a1, a2, a3, a4, a5⟩ := sAll_mem.mp hx
        obtain ⟨name, here, i⟩ := x
        injection e with e1 e2
        obtain ⟨v, hv⟩ := dhas_iff.mp a2
        have C := chains_all g name
        have hv : (here, v) ∈ chainsFrom g name := hv
        have ev : (dget (chainsFrom g name) here).getD [] = v := by rw [dget_of_mem C.nd hv]; rfl
        refine ⟨name, here, v, i, a1, C.lp _ hv, C.len _ hv, a3, a4, a5, ?_, e1, ?_⟩
        · have hc : (!isLone (name, (gi g i).2)) = true := hc
          rw [lone_eq] at hc
          simpa using hc
        · rw [e2]; show (dget (chainsFrom g name) here).getD [] ++ [i] = _; rw [ev]
    · obtain ⟨v, hv⟩ := dhas_iff.mp (putFold_has (sOk g) (sKey g) (sVal g) (sAll g) [] (name, here, i) (sAll_mem.mpr ⟨hn, lp_has hc, h0, h1, h2⟩) (by
        show (!isLone (name, (gi g i).2)) = true
        rw [lone_eq, h3]; rfl))
      exact (T.mem _).mpr ⟨v, hv⟩
  · cases h
/-- a chain over a tree -/
def chainOn (c : List Int) (t : Tr) : Tr := c.foldr (fun k t => .node k [t]) t
theorem chainOn_snoc (c : List Int) (i : Int) (t : Tr) : chainOn (c ++ [i]) t = chainOn c (.node i [t]) := by
  unfold chainOn; rw [List.foldr_append]; rfl
theorem lp_fits {g : Gram} {name : Str} {c : List Int} {here : Str} (h : LP g name c here) : ∀ t, fitsB g here t = true → fitsB g name (chainOn c t) = true := by
  induction h with
  | nil => exact fun t ht => ht
  | snoc _ h0 h1 h2 h3 ih =>
    intro t ht
    rw [chainOn_snoc]
    refine ih _ (fits_node.mpr ⟨h0, h1, h2, ?_⟩)
    rw [(lone_parts h3).1]
    exact fits_cons.mpr ⟨ht, fits_nil.mpr rfl⟩
theorem chainOn_lets : ∀ (c : List Int) (t : Tr), lets (chainOn c t) = lets t
  | [], t => rfl
  | k :: c, t => by
    show lets (.node k [chainOn c t]) = _
    rw [lets, letsL, letsL, List.append_nil, chainOn_lets c t]
theorem chainOn_depth : ∀ (c : List Int) (t : Tr), depth (chainOn c t) = c.length + depth t
  | [], t => by show depth t = 0 + depth t; omega
  | k :: c, t => by
    show depth (.node k [chainOn c t]) = _
    rw [depth, depthL, depthL, chainOn_depth c t, List.length_cons]; omega
theorem leadS_on (book : List (List Int)) (n : Int) (ts : List Tr) {c : List Int} {i : Int} (h : gi book n = c ++ [i]) : leadS book (.node n ts) = chainOn c (.node i (leadSL book ts)) := by
  rw [leadS, h, List.dropLast_concat, List.reverse_append]
  rfl
section
variable {g f : Gram} {b : List (List Int)}
theorem StrOk.rule (S : StrOk g f b) {r : Rule} (h : r ∈ f) : r.1 ∈ namesBy g ∧ ∃ q ∈ g, r.2 = q.2 := by
  obtain ⟨n, h0, h1, e⟩ := mem_gi h
  obtain ⟨name, here, c, i, a1, a2, a3, a4, a5, a6, a7, a8, a9⟩ := S.snd n h0 h1
  rw [← e, a8]
  exact ⟨a1, _, gi_mem a4 a5, rfl⟩
mutual
/-- trees led, where no chain is longer than m -/
theorem StrOk.lead (S : StrOk g f b) {m : Nat} (hm : ∀ name ∈ namesBy g, (chainsFrom g name).length ≤ m) : ∀ (t : Tr) (p : Str), fitsB f p t = true → fitsB g p (leadS b t) = true ∧ lets (leadS b t) = lets t ∧ depth (leadS b t) ≤ (m + 1) * depth t ∧ inS b t = true
  | .leaf s, p, h => by
    rw [leadS]
    exact ⟨fits_leaf.mpr (fits_leaf.mp h), rfl, by rw [depth]; omega, by rw [inS]⟩
  | .node n ts, p, h => by
    obtain ⟨h1, h2, h3, h4⟩ := fits_node.mp h
    obtain ⟨name, here, c, i, a1, a2, a3, a4, a5, a6, a7, a8, a9⟩ := S.snd n h1 h2
    obtain ⟨k1, k2, k3, k4⟩ := S.leadL hm ts _ h4
    rw [a8] at h3 k1
    have h3 : name = p := h3
    rw [leadS_on b n ts a9]
    refine ⟨h3 ▸ lp_fits a2 _ (fits_node.mpr ⟨a4, a5, a6, k1⟩), by rw [chainOn_lets, lets, lets]; exact k2, ?_, ?_⟩
    · rw [chainOn_depth, depth, depth, Nat.mul_add]
      have := hm name a1
      omega
    · rw [inS, k4, Bool.and_true, Bool.and_eq_true, Bool.and_eq_true, decide_eq_true_eq, decide_eq_true_eq, decide_eq_true_eq]
      exact ⟨⟨h1, by rw [S.len]; exact h2⟩, by rw [a9]; simp⟩
theorem StrOk.leadL (S : StrOk g f b) {m : Nat} (hm : ∀ name ∈ namesBy g, (chainsFrom g name).length ≤ m) : ∀ (ts : List Tr) (ps : List Str), fitsL f ps ts = true → fitsL g ps (leadSL b ts) = true ∧ letsL (leadSL b ts) = letsL ts ∧ depthL (leadSL b ts) ≤ (m + 1) * depthL ts ∧ inSL b ts = true
  | [], [], _ => by rw [leadSL]; exact ⟨by rw [fitsL], rfl, by rw [depthL]; omega, by rw [inSL]⟩
  | [], _ :: _, h => by rw [fitsL] at h; cases h
  | _ :: _, [], h => by rw [fitsL] at h; cases h
  | t :: ts, p :: ps, h => by
    obtain ⟨h1, h2⟩ := fits_cons.mp h
    obtain ⟨a1, a2, a3, a4⟩ := S.lead hm t p h1
    obtain ⟨b1, b2, b3, b4⟩ := S.leadL hm ts ps h2
    rw [leadSL]
    refine ⟨fits_cons.mpr ⟨a1, b1⟩, by rw [letsL, letsL, a2, b2], ?_, by rw [inSL, a4, b4]; rfl⟩
    rw [depthL, depthL]
    have e1 : (m + 1) * depth t ≤ (m + 1) * max (depth t) (depthL ts) := Nat.mul_le_mul_left _ (Nat.le_max_left _ _)
    have e2 : (m + 1) * depthL ts ≤ (m + 1) * max (depth t) (depthL ts) := Nat.mul_le_mul_left _ (Nat.le_max_right _ _)
    omega
end
mutual
/-- a tree below a chain stands in the straightened grammar, too -/
theorem StrOk.layC (W : WF g) (S : StrOk g f b) : ∀ (t : Tr) (here : Str), fitsB g here t = true → isLetter here = false → ∀ name ∈ namesBy g, ∀ c, LP g name c here → ∃ u, fitsB f name u = true ∧ lets u = lets t
  | .leaf s, here, h, hl, _, _, _, _ => by rw [(fits_leaf.mp h).2] at hl; cases hl
  | .node n ts, here, h, hl, name, hn, c, hc => by
    obtain ⟨h1, h2, h3, h4⟩ := fits_node.mp h
    cases hlone : isLone (gi g n) with
    | true =>
      obtain ⟨e1, e2⟩ := lone_parts hlone
      have hc' := LP.snoc hc h1 h2 h3 hlone
      match ts, h4 with
      | [], h4 => rw [e1, fitsL] at h4; cases h4
      | t :: us, h4 =>
        rw [e1] at h4
        obtain ⟨k1, k2⟩ := fits_cons.mp h4
        have k2 := fits_nil.mp k2
        obtain ⟨u, q1, q2⟩ := S.layC W t _ k1 e2 name hn _ hc'
        exact ⟨u, q1, by rw [q2, k2, lets, letsL, letsL, List.append_nil]⟩
    | false =>
      obtain ⟨us, q1, q2⟩ := S.layL W ts (gi g n).2 h4 (fun p hp => W.part _ (gi_mem h1 h2) p hp)
      obtain ⟨u, q3, q4⟩ := fits_rule (S.cpl name hn c here hc n h1 h2 h3 hlone) q1
      exact ⟨u, q3, by rw [q4, q2, lets]⟩
theorem StrOk.layL (W : WF g) (S : StrOk g f b) : ∀ (ts : List Tr) (ps : List Str), fitsL g ps ts = true → (∀ p ∈ ps, isLetter p = true ∨ (isName p = true ∧ p ∈ g.map (·.1))) → ∃ us, fitsL f ps us = true ∧ letsL us = letsL ts
  | [], [], _, _ => ⟨[], by rw [fitsL], rfl⟩
  | [], _ :: _, h, _ => by rw [fitsL] at h; cases h
  | _ :: _, [], h, _ => by rw [fitsL] at h; cases h
  | t :: ts, p :: ps, h, hp => by
    obtain ⟨h1, h2⟩ := fits_cons.mp h
    obtain ⟨us, q1, q2⟩ := S.layL W ts ps h2 fun q hq => hp q (by simp [hq])
    cases hl : isLetter p with
    | true =>
      refine ⟨.leaf p :: us, fits_cons.mpr ⟨fits_letter hl, q1⟩, ?_⟩
      rw [letsL, letsL, q2]
      congr 1
      match t, h1 with
      | .leaf s, h1 => rw [(fits_leaf.mp h1).1]
      | .node n vs, h1 =>
        obtain ⟨k1, k2, k3, _⟩ := fits_node.mp h1
        rw [← k3, name_letter' (W.name _ (gi_mem k1 k2))] at hl; cases hl
    | false =>
      have hn : p ∈ namesBy g := by
        rcases hp p (by simp) with e | ⟨_, e⟩
        · rw [hl] at e; cases e
        · exact namesBy_mem.mpr (head_mem.mp e)
      obtain ⟨u, k1, k2⟩ := S.layC W t p h1 hl p hn [] .nil
      exact ⟨u :: us, fits_cons.mpr ⟨k1, q1⟩, by rw [letsL, letsL, k2, q2]⟩
end
theorem StrOk.lay (W : WF g) (S : StrOk g f b) {t : Tr} {p : Str} (hp : p ∈ namesBy g) (h : fitsB g p t = true) : ∃ u, fitsB f p u = true ∧ lets u = lets t := by
  obtain ⟨r, hr, e⟩ := namesBy_mem.mp hp
  exact S.layC W t p h (e ▸ name_letter' (W.name r hr)) p hp [] .nil
/-- each name has a rule -/
theorem StrOk.has (W : WF g) (S : StrOk g f b) : ∀ p ∈ namesBy g, p ∈ grow okMake f ∧ ∃ r ∈ f, r.1 = p := by
  intro p hp
  obtain ⟨r, hr, e⟩ := namesBy_mem.mp hp
  obtain ⟨t, ht⟩ := make_tree _ (S.all r hr)
  obtain ⟨u, hu, _⟩ := S.lay W hp (e ▸ ht)
  have hl : isLetter p = false := e ▸ name_letter' (W.name r hr)
  have hg : p ∈ grow okMake f := by
    rcases tree_make u _ hu with k | k
    · rw [hl] at k; cases k
    · exact k
  exact ⟨hg, grow_head p hg⟩
theorem StrOk.makes (W : WF g) (S : StrOk g f b) : AllMk f := fun r hr => (S.has W _ (S.rule hr).1).1
theorem WF.zero {g : Gram} (W : WF g) : gi g 0 ∈ g := gi_mem (Int.le_refl 0) (by have := W.pos; omega)
theorem StrOk.head0 (W : WF g) (S : StrOk g f b) : (gi f 0).1 = (gi g 0).1 := S.first (S.has W _ (namesBy_mem.mpr ⟨_, W.zero, rfl⟩)).2
theorem StrOk.wf (W : WF g) (S : StrOk g f b) : WF f where
  pos := by
    obtain ⟨_, r, hr, _⟩ := S.has W _ (namesBy_mem.mpr ⟨_, W.zero, rfl⟩)
    cases hf : f with
    | nil => rw [hf] at hr; cases hr
    | cons x l => simp
  le := S.le
  nd := S.nd
  name := fun r h => by
    obtain ⟨q, hq, e⟩ := namesBy_mem.mp (S.rule h).1
    rw [← e]; exact W.name q hq
  six := fun r h => by
    obtain ⟨_, q, hq, e⟩ := S.rule h
    rw [e]; exact W.six q hq
  part := fun r h p hp => by
    obtain ⟨_, q, hq, e⟩ := S.rule h
    rw [e] at hp
    rcases W.part q hq p hp with c | ⟨c, d⟩
    · exact .inl c
    · exact .inr ⟨c, head_mem.mpr (S.has W p (namesBy_mem.mpr (head_mem.mp d))).2⟩
end
end Rw

/-! RwJ2: plain laws of pairs: the rows -/
namespace Rw
open PySem (Str)
/-- what a number's rule looks like from one of its rows on -/
inductive Row (g : Gram) (f : Gram) (b : List (Int × Int)) (i : Int) : Int → List Str → Prop where
  | stop {n : Int} {ps : List Str} : 0 ≤ n → n < f.length → (gi b n).1 = i → (gi f n).2 = ps → ps.length ≤ 2 → Row g f b i n ps
  | step {n n' : Int} {a x y : Str} {r : List Str} : 0 ≤ n → n < f.length → (gi b n).1 = i → (gi f n).2 = [a, (gi f n').1] → (gi f n').1 ∈ newNames g → Row g f b i n' (x :: y :: r) → Row g f b i n (a :: x :: y :: r)
section
variable {g f f' : Gram} {b b' : List (Int × Int)} {i n : Int} {ps : List Str}
theorem Row.at0 (R : Row g f b i n ps) : 0 ≤ n ∧ n < f.length ∧ (gi b n).1 = i := by
  cases R with
  | stop a c d _ _ => exact ⟨a, c, d⟩
  | step a c d _ _ _ => exact ⟨a, c, d⟩
theorem gi_app {α : Type} [Inhabited α] {l m : List α} {n : Int} (h0 : 0 ≤ n) (h1 : n < l.length) : gi (l ++ m) n = gi l n := by
  obtain ⟨k, rfl⟩ := Int.eq_ofNat_of_zero_le h0
  have hk : k < l.length := by omega
  rw [gi_nat, gi_nat, List.getD_eq_getElem?_getD, List.getD_eq_getElem?_getD, List.getElem?_append_left hk]
theorem gi_new {α : Type} [Inhabited α] {l m : List α} {x : α} : gi (l ++ x :: m) (l.length : Int) = x := by
  rw [gi_nat, List.getD_eq_getElem?_getD, List.getElem?_append_right (Nat.le_refl _), Nat.sub_self]; rfl
theorem Row.mono (hl : b.length = f.length) (R : Row g f b i n ps) : Row g (f ++ f') (b ++ b') i n ps := by
  induction R with
  | stop h0 h1 h2 h3 h4 => exact .stop h0 (by rw [List.length_append]; omega) (by rw [gi_app h0 (by omega)]; exact h2) (by rw [gi_app h0 h1]; exact h3) h4
  | @step n n' a x y r h0 h1 h2 h3 h4 R ih =>
    obtain ⟨q0, q1, _⟩ := R.at0
    exact .step (n' := n') h0 (by rw [List.length_append]; omega) (by rw [gi_app h0 (by omega)]; exact h2) (by rw [gi_app h0 h1, gi_app q0 q1]; exact h3) (by rw [gi_app q0 q1]; exact h4) ih
end
/-- the new names that stand as heads, in order -/
def newHeads (g : Gram) (f : Gram) : List Str := (f.map (·.1)).filter fun n => decide (n ∈ newNames g)
theorem newHeads_app (g f f' : Gram) : newHeads g (f ++ f') = newHeads g f ++ newHeads g f' := by
  unfold newHeads; rw [List.map_append, List.filter_append]
theorem newHeads_mem {g f : Gram} {n : Str} : n ∈ newHeads g f ↔ n ∈ f.map (·.1) ∧ n ∈ newNames g := by
  unfold newHeads; rw [List.mem_filter, decide_eq_true_eq]
theorem newNames_nd (g : Gram) : (newNames g).Nodup := by
  unfold newNames
  exact List.Nodup.sublist List.filter_sublist pNames_nd
theorem newNames_mem {g : Gram} {n : Str} (h : n ∈ newNames g) : n ∉ namesBy g ∧ ∃ i ∈ span 1 400, n = pName i := by
  unfold newNames at h
  rw [List.mem_filter] at h
  obtain ⟨i, hi, e⟩ := List.mem_map.mp h.1
  exact ⟨by simpa using h.2, i, hi, e.symm⟩
theorem pNames_isName : ∀ i ∈ span 1 400, isName (pName i) = true := by decide +kernel
theorem newNames_name {g : Gram} {n : Str} (h : n ∈ newNames g) : isName n = true := by
  obtain ⟨_, i, hi, e⟩ := newNames_mem h
  rw [e]; exact pNames_isName i hi
structure Core (g : Gram) (k : Nat) (st : PairSt) : Prop where
  len : st.2.1.length = st.1.length
  un : ∀ r ∈ st.1, ∀ p ∈ r.2, p ∉ st.2.2
  old : ∀ r ∈ st.1, r.1 ∈ newNames g ∨ (∃ p ∈ r.2, p ∈ newNames g) ∨ r ∈ g.take k
  nd : st.1.Nodup
  two : ∀ r ∈ st.1, r.2.length ≤ 2
/-- the row n is one of rule i -/
abbrev BackOf (g : Gram) (f : Gram) (b : List (Int × Int)) (i n : Int) : Prop := ∃ ps, Row g f b i n ps ∧ (∀ p ∈ ps, p ∈ (gi g i).2) ∧ ((gi f n).1 ∈ newNames g ∨ ((gi f n).1 = (gi g i).1 ∧ ps = (gi g i).2))
theorem pairRule_ok {g : Gram} (W : WF g) {k : Nat} (hk : k < g.length) : ∀ (ps : List Str) (name : Str) (place : Int) (st : PairSt), Core g k st →
    newNames g = newHeads g (st.1 ++ [(name, [])]) ++ st.2.2 → ps.length ≤ st.2.2.length + 2 → (∀ p ∈ ps, p ∈ (gi g (k : Int)).2) → (name ∈ newNames g ∨ (name = (gi g (k : Int)).1 ∧ ps = (gi g (k : Int)).2)) →
    ∃ m mb, m ≠ [] ∧ (pairRule k ps name place st).1 = st.1 ++ m ∧ (pairRule k ps name place st).2.1 = st.2.1 ++ mb ∧ Core g (k + 1) (pairRule k ps name place st) ∧ newNames g = newHeads g (pairRule k ps name place st).1 ++ (pairRule k ps name place st).2.2 ∧
      st.2.2.length ≤ (pairRule k ps name place st).2.2.length + ps.length ∧ (gi (pairRule k ps name place st).1 (st.1.length : Int)).1 = name ∧
      Row g (pairRule k ps name place st).1 (pairRule k ps name place st).2.1 k (st.1.length : Int) ps ∧
      ∀ n : Int, (st.1.length : Int) ≤ n → n < (pairRule k ps name place st).1.length → BackOf g (pairRule k ps name place st).1 (pairRule k ps name place st).2.1 k n := by
  have hrule : gi g (k : Int) ∈ g := gi_mem (by omega) (by omega)
  have hnn : ∀ p ∈ (gi g (k : Int)).2, p ∉ newNames g := fun p hp hn => by
    rcases W.part _ hrule p hp with e | ⟨_, e⟩
    · rw [name_letter' (newNames_name hn)] at e; cases e
    · exact (newNames_mem hn).1 (namesBy_mem.mpr (head_mem.mp e))
  have hnd := newNames_nd g
  have stop : ∀ (ps : List Str) (name : Str) (place : Int) (st : PairSt), ps.length ≤ 2 → Core g k st →
    newNames g = newHeads g (st.1 ++ [(name, [])]) ++ st.2.2 → (∀ p ∈ ps, p ∈ (gi g (k : Int)).2) → (name ∈ newNames g ∨ (name = (gi g (k : Int)).1 ∧ ps = (gi g (k : Int)).2)) →
    ∃ m mb, m ≠ [] ∧ (pairRule k ps name place st).1 = st.1 ++ m ∧ (pairRule k ps name place st).2.1 = st.2.1 ++ mb ∧ Core g (k + 1) (pairRule k ps name place st) ∧ newNames g = newHeads g (pairRule k ps name place st).1 ++ (pairRule k ps name place st).2.2 ∧
      st.2.2.length ≤ (pairRule k ps name place st).2.2.length + ps.length ∧ (gi (pairRule k ps name place st).1 (st.1.length : Int)).1 = name ∧
      Row g (pairRule k ps name place st).1 (pairRule k ps name place st).2.1 k (st.1.length : Int) ps ∧
      ∀ n : Int, (st.1.length : Int) ≤ n → n < (pairRule k ps name place st).1.length → BackOf g (pairRule k ps name place st).1 (pairRule k ps name place st).2.1 k n := by
    intro ps name place st h2 C hs hp hname
    rw [pairRule_stop h2]
    have hnh : newHeads g (st.1 ++ [(name, ps)]) = newHeads g (st.1 ++ [(name, [])]) := by
      rw [newHeads_app, newHeads_app]; rfl
    have hgl : gi (st.1 ++ [(name, ps)]) (st.1.length : Int) = (name, ps) := gi_new
    have hbl : gi (st.2.1 ++ [((k : Int), place)]) (st.1.length : Int) = ((k : Int), place) := by rw [← C.len]; exact gi_new
    have hR : Row g (st.1 ++ [(name, ps)]) (st.2.1 ++ [((k : Int), place)]) k (st.1.length : Int) ps := .stop (by omega) (by rw [List.length_append, List.length_singleton]; omega) (by rw [hbl]) (by rw [hgl]) h2
    refine ⟨[(name, ps)], [((k : Int), place)], by simp, rfl, rfl, ⟨?_, ?_, ?_, ?_, ?_⟩, ?_, ?_, ?_, hR, ?_⟩
    · show (st.2.1 ++ _).length = (st.1 ++ _).length
      rw [List.length_append, List.length_append, C.len]; rfl
    · intro r hr p hpr
      rcases List.mem_append.mp hr with e | e
      · exact C.un r e p hpr
      · simp at e; subst e
        intro q
        exact hnn p (hp p hpr) (by rw [hs]; exact List.mem_append_right _ q)
    · intro r hr
      rcases List.mem_append.mp hr with e | e
      · rcases C.old r e with q | q | q
        · exact .inl q
        · exact .inr (.inl q)
        · exact .inr (.inr ((List.take_sublist_take_left (Nat.le_succ k)).subset q))
      · simp at e; subst e
        rcases hname with q | ⟨q1, q2⟩
        · exact .inl q
        · refine .inr (.inr ?_)
          rw [q1, q2, gi_get hk, List.take_add_one, List.getElem?_eq_getElem hk]
          exact List.mem_append_right _ (by simp)
    · show (st.1 ++ [(name, ps)]).Nodup
      refine List.nodup_append.mpr ⟨C.nd, by simp, ?_⟩
      intro r hr x hx
      simp at hx; subst hx
      intro e; subst e
      have hnm : name ∈ newNames g → False := fun hn => by
        rw [hs, newHeads_app] at hnd
        have h1 := (List.nodup_append.mp (List.nodup_append.mp hnd).1).2.2
        exact h1 name (newHeads_mem.mpr ⟨List.mem_map.mpr ⟨_, hr, rfl⟩, hn⟩) name (newHeads_mem.mpr ⟨by simp, hn⟩) rfl
      rcases C.old _ hr with q | ⟨p, q1, q2⟩ | q
      · exact hnm q
      · exact hnn p (hp p q1) q2
      · rcases hname with q1 | ⟨q1, q2⟩
        · exact hnm q1
        · rw [q1, q2] at q
          have q : gi g (k : Int) ∈ g.take k := q
          obtain ⟨j, hj, e⟩ := List.mem_iff_getElem.mp q
          rw [List.length_take] at hj
          rw [List.getElem_take, gi_get hk] at e
          have := (List.getElem_inj W.nd).mp e
          omega
    · intro r hr
      rcases List.mem_append.mp hr with e | e
      · exact C.two r e
      · simp at e; subst e; exact h2
    · show newNames g = newHeads g (st.1 ++ [(name, ps)]) ++ st.2.2
      rw [hnh]; exact hs
    · show st.2.2.length ≤ st.2.2.length + _; omega
    · show (gi (st.1 ++ [(name, ps)]) _).1 = _
      rw [hgl]
    · intro n h0 h1
      have h1 : n < ((st.1 ++ [(name, ps)]).length : Nat) := h1
      rw [List.length_append, List.length_singleton] at h1
      have e : n = (st.1.length : Int) := by omega
      subst e
      refine ⟨ps, hR, hp, ?_⟩
      show (gi (st.1 ++ [(name, ps)]) _).1 ∈ _ ∨ (gi (st.1 ++ [(name, ps)]) _).1 = _ ∧ _
      rw [hgl]; exact hname
  intro ps
  induction ps with
  | nil => intro name place st C hs _ hp hname; exact stop [] name place st (by simp) C hs hp hname
  | cons a ps ih =>
    intro name place st C hs hlen hp hname
    match ps, ih, hlen, hp, hname with
    | [], _, _, hp, hname => exact stop [a] name place st (by simp) C hs hp hname
    | [x], _, _, hp, hname => exact stop [a, x] name place st (by simp) C hs hp hname
    | x :: y :: r, ih, hlen, hp, hname =>
      obtain ⟨f0, b0, s0⟩ := st
      match s0, hlen, C, hs with
      | [], hlen, _, _ => simp at hlen
      | nw :: s1, hlen, C, hs =>
        have hs : newNames g = newHeads g (f0 ++ [(name, [])]) ++ nw :: s1 := hs
        have hnw : nw ∈ newNames g := by rw [hs]; simp
        have hCl : b0.length = f0.length := C.len
        have hnh : newHeads g (f0 ++ [(name, [a, nw])]) = newHeads g (f0 ++ [(name, [])]) := by
          rw [newHeads_app, newHeads_app]; rfl
        have hnw1 : newHeads g [(nw, [])] = [nw] := by
          unfold newHeads
          rw [List.map_cons, List.map_nil, List.filter_cons, if_pos (by simpa using hnw)]; rfl
        have hsn : newNames g = newHeads g (f0 ++ [(name, [a, nw])] ++ [(nw, [])]) ++ s1 := by
          rw [newHeads_app, hnh, hnw1, List.append_assoc]; exact hs
        have hnd' := hnd
        rw [hs] at hnd'
        have hnws : nw ∉ s1 := (List.nodup_cons.mp (List.nodup_append.mp hnd').2.1).1
        have C' : Core g k (f0 ++ [(name, [a, nw])], b0 ++ [((k : Int), place)], s1) := by
          refine ⟨?_, ?_, ?_, ?_, ?_⟩
          · show (b0 ++ _).length = (f0 ++ _).length
            rw [List.length_append, List.length_append, hCl]; rfl
          · intro q hq p hpq
            rcases List.mem_append.mp hq with e | e
            · exact fun h => C.un q e p hpq (List.mem_cons_of_mem _ h)
            · simp at e; subst e
              have hpq : p ∈ [a, nw] := hpq
              simp at hpq
              rcases hpq with e | e
              · subst e
                intro h
                exact hnn p (hp p (by simp)) (by rw [hs]; exact List.mem_append_right _ (List.mem_cons_of_mem _ h))
              · subst e; exact hnws
          · intro q hq
            rcases List.mem_append.mp hq with e | e
            · exact C.old q e
            · simp at e; subst e
              exact .inr (.inl ⟨nw, by simp, hnw⟩)
          · show (f0 ++ [(name, [a, nw])]).Nodup
            refine List.nodup_append.mpr ⟨C.nd, by simp, ?_⟩
            intro q hq z hz
            simp at hz; subst hz
            intro e; subst e
            exact C.un _ hq nw (by simp) (by simp)
          · intro q hq
            rcases List.mem_append.mp hq with e | e
            · exact C.two q e
            · simp at e; subst e; exact Nat.le_refl _
        obtain ⟨m, mb, e0, e1, e2, e3, e4, e5, e6, e7, e8⟩ := ih nw (place + 1) (f0 ++ [(name, [a, nw])], b0 ++ [((k : Int), place)], s1) C' hsn (by simp at hlen ⊢; omega) (fun p hpp => hp p (by simp at hpp ⊢; exact .inr hpp)) (.inl hnw)
        have e9 : pairRule k (a :: x :: y :: r) name place (f0, b0, nw :: s1) = pairRule k (x :: y :: r) nw (place + 1) (f0 ++ [(name, [a, nw])], b0 ++ [((k : Int), place)], s1) := by
          rw [pairRule]; rfl
        rw [e9]
        generalize pairRule k (x :: y :: r) nw (place + 1) (f0 ++ [(name, [a, nw])], b0 ++ [((k : Int), place)], s1) = st' at e1 e2 e3 e4 e5 e6 e7 e8
        have e1 : st'.1 = (f0 ++ [(name, [a, nw])]) ++ m := e1
        have e2 : st'.2.1 = (b0 ++ [((k : Int), place)]) ++ mb := e2
        have e6 : (gi st'.1 ((f0 ++ [(name, [a, nw])]).length : Int)).1 = nw := e6
        have e7 : Row g st'.1 st'.2.1 k ((f0 ++ [(name, [a, nw])]).length : Int) (x :: y :: r) := e7
        have hl1 : (f0 ++ [(name, [a, nw])]).length = f0.length + 1 := by rw [List.length_append]; rfl
        have hg : gi st'.1 (f0.length : Int) = (name, [a, nw]) := by rw [e1, List.append_assoc]; exact gi_new
        have hb : gi st'.2.1 (f0.length : Int) = ((k : Int), place) := by rw [e2, List.append_assoc, ← hCl]; exact gi_new
        have hR : Row g st'.1 st'.2.1 k (f0.length : Int) (a :: x :: y :: r) := by
          refine .step (n' := ((f0 ++ [(name, [a, nw])]).length : Int)) (by omega) ?_ (by rw [hb]) (by rw [hg, e6]) (by rw [e6]; exact hnw) e7
          rw [e1, List.length_append, hl1]; omega
        refine ⟨[(name, [a, nw])] ++ m, [((k : Int), place)] ++ mb, by simp, ?_, ?_, e3, e4, ?_, ?_, hR, ?_⟩
        · rw [e1, List.append_assoc]
        · rw [e2, List.append_assoc]
        · show (nw :: s1).length ≤ _
          have e5 : s1.length ≤ st'.2.2.length + (x :: y :: r).length := e5
          rw [List.length_cons, List.length_cons (a := a)]; omega
        · show (gi st'.1 (f0.length : Int)).1 = _; rw [hg]
        · intro n h0 h1
          have h0 : (f0.length : Int) ≤ n := h0
          by_cases c : n = (f0.length : Int)
          · subst c
            refine ⟨_, hR, hp, ?_⟩
            rw [hg]; exact hname
          · exact e8 n (by show ((f0 ++ [(name, [a, nw])]).length : Int) ≤ n; rw [hl1]; omega) h1
end Rw

/-! RwJ3: plain laws of pairs: paired -/
namespace Rw
open PySem (Str)
structure PInv (g : Gram) (k : Nat) (st : PairSt) : Prop where
  core : Core g k st
  spl : newNames g = newHeads g st.1 ++ st.2.2
  enough : 359 ≤ st.2.2.length + 6 * k
  start : ∀ i : Nat, i < k → ∃ n : Int, (gi st.1 n).1 = (gi g (i : Int)).1 ∧ Row g st.1 st.2.1 i n (gi g (i : Int)).2
  back : ∀ n : Int, 0 ≤ n → n < st.1.length → ∃ i : Nat, i < k ∧ BackOf g st.1 st.2.1 i n
  head0 : 0 < k → (gi st.1 0).1 = (gi g 0).1
theorem BackOf.mono {g f f' : Gram} {b b' : List (Int × Int)} {i n : Int} (hl : b.length = f.length) (B : BackOf g f b i n) : BackOf g (f ++ f') (b ++ b') i n := by
  obtain ⟨ps, R, h1, h2⟩ := B
  obtain ⟨q0, q1, _⟩ := R.at0
  exact ⟨ps, R.mono hl, h1, by rw [gi_app q0 q1]; exact h2⟩
theorem PInv.step {g : Gram} (W : WF g) {k : Nat} {st : PairSt} (hk : k < g.length) (I : PInv g k st) : PInv g (k + 1) (pairRule k (gi g (k : Int)).2 (gi g (k : Int)).1 0 st) := by
  have hrule : gi g (k : Int) ∈ g := gi_mem (by omega) (by omega)
  have hnot : (gi g (k : Int)).1 ∉ newNames g := fun h => (newNames_mem h).1 (namesBy_mem.mpr ⟨_, hrule, rfl⟩)
  have h6 := W.six _ hrule
  have h40 := W.le
  have hen := I.enough
  have hnil : newHeads g [((gi g (k : Int)).1, [])] = [] := by
    unfold newHeads
    rw [List.map_cons, List.map_nil, List.filter_cons, if_neg (by simpa using hnot)]; rfl
  obtain ⟨m, mb, e0, e1, e2, e3, e4, e5, e6, e7, e8⟩ := pairRule_ok W hk (gi g (k : Int)).2 (gi g (k : Int)).1 0 st I.core (by rw [newHeads_app, hnil, List.append_nil]; exact I.spl) (by omega) (fun p hp => hp) (.inr ⟨rfl, rfl⟩)
  generalize pairRule k (gi g (k : Int)).2 (gi g (k : Int)).1 0 st = st' at *
  have hl := I.core.len
  refine ⟨e3, e4, by omega, fun i hi => ?_, fun n h0 h1 => ?_, fun _ => ?_⟩
  · by_cases c : i = k
    · subst c; exact ⟨_, e6, e7⟩
    · obtain ⟨n, q1, q2⟩ := I.start i (by omega)
      obtain ⟨a0, a1, _⟩ := q2.at0
      refine ⟨n, ?_, ?_⟩
      · rw [e1, gi_app a0 a1]; exact q1
      · rw [e1, e2]; exact q2.mono hl
  · by_cases c : n < st.1.length
    · obtain ⟨i, hi, B⟩ := I.back n h0 c
      refine ⟨i, by omega, ?_⟩
      rw [e1, e2]; exact B.mono hl
    · exact ⟨k, by omega, e8 n (by omega) h1⟩
  · by_cases c : k = 0
    · subst c
      have : st.1.length = 0 := by
        by_cases d : st.1.length = 0
        · exact d
        · obtain ⟨i, hi, _⟩ := I.back 0 (Int.le_refl 0) (by omega)
          omega
      rw [this] at e6
      exact e6
    · have h0 := I.head0 (by omega)
      obtain ⟨n, _, q2⟩ := I.start 0 (by omega)
      obtain ⟨a0, a1, _⟩ := q2.at0
      rw [e1, gi_app (Int.le_refl 0) (by omega)]; exact h0
theorem pairAll_inv {g : Gram} (W : WF g) : PInv g g.length (pairAll g) := by
  have : ∀ k, k ≤ g.length → PInv g k (((enumI g).take k).foldl (fun st nr => pairRule nr.1 nr.2.2 nr.2.1 0 st) ([], [], newNames g)) := by
    intro k
    induction k with
    | zero =>
      intro _
      refine ⟨⟨rfl, (fun r h => by cases h), (fun r h => by cases h), List.nodup_nil, fun r h => by cases h⟩, rfl, (newNames_len W.le).1, fun i h => by omega, fun n h0 h1 => ?_, fun h => by omega⟩
      have h1 : n < (([] : List Rule).length : Nat) := h1
      simp at h1; omega
    | succ k ih =>
      intro hk
      have hg : g[k]? = some (gi g (k : Int)) := by rw [gi_get (by omega)]; exact List.getElem?_eq_getElem (by omega)
      rw [List.take_add_one, enumI_get hg, List.foldl_append]
      exact (ih (by omega)).step W (by omega)
  have h := this g.length (Nat.le_refl _)
  rw [List.take_of_length_le (by rw [enumI_len]; exact Nat.le_refl _)] at h
  exact h
structure PairOk (g f : Gram) (b : List (Int × Int)) : Prop where
  le : f.length ≤ 40
  nd : f.Nodup
  len : b.length = f.length
  two : ∀ r ∈ f, r.2.length ≤ 2
  start : ∀ i : Int, 0 ≤ i → i < g.length → ∃ n : Int, (gi f n).1 = (gi g i).1 ∧ Row g f b i n (gi g i).2
  back : ∀ n : Int, 0 ≤ n → n < f.length → ∃ i : Int, 0 ≤ i ∧ i < g.length ∧ BackOf g f b i n
  uniq : ∀ n n' : Int, 0 ≤ n → n < f.length → 0 ≤ n' → n' < f.length → (gi f n).1 = (gi f n').1 → (gi f n).1 ∈ newNames g → n = n'
  head0 : (gi f 0).1 = (gi g 0).1
theorem filter_uniq {α : Type} (P : α → Bool) : ∀ (l : List α) (i j : Nat) (x : α), (l.filter P).Nodup → l[i]? = some x → l[j]? = some x → P x = true → i = j
  | [], i, j, x, _, h, _, _ => by simp at h
  | y :: l, i, j, x, nd, h1, h2, hp => by
    have inn : ∀ k : Nat, l[k]? = some x → x ∈ l.filter P := fun k h => List.mem_filter.mpr ⟨List.mem_of_getElem? h, hp⟩
    match i, j, h1, h2 with
    | 0, 0, _, _ => rfl
    | 0, j + 1, h1, h2 =>
      simp at h1 h2
      subst h1
      rw [List.filter_cons, if_pos hp] at nd
      exact absurd (inn j h2) (List.nodup_cons.mp nd).1
    | i + 1, 0, h1, h2 =>
      simp at h1 h2
      subst h2
      rw [List.filter_cons, if_pos hp] at nd
      exact absurd (inn i h1) (List.nodup_cons.mp nd).1
    | i + 1, j + 1, h1, h2 =>
      simp at h1 h2
      rw [List.filter_cons] at nd
      have nd' : (l.filter P).Nodup := by
        split at nd
        · exact (List.nodup_cons.mp nd).2
        · exact nd
      rw [filter_uniq P l i j x nd' h1 h2 hp]
theorem pair_ok {g f : Gram} {b : List (Int × Int)} (W : WF g) (h : paired g = .ok (f, b)) : PairOk g f b := by
  unfold paired at h
  split at h
  · rename_i c
    injection h with h
    injection h with h1 h2
    have I := pairAll_inv W
    have hsp := I.spl
    have hst := I.start
    have hbk := I.back
    have hh0 := I.head0 W.pos
    have C := I.core
    obtain ⟨cl, _, _, cn, c2⟩ := C
    rw [h1] at c hsp hst hbk hh0 cl cn c2
    rw [h2] at hst hbk cl
    refine ⟨c, cn, cl, c2, fun i h0 h1 => ?_, fun n h0 h1 => ?_, fun n n' h0 h1 h2 h3 he hn => ?_, hh0⟩
    · obtain ⟨k, rfl⟩ := Int.eq_ofNat_of_zero_le h0
      exact hst k (by omega)
    · obtain ⟨i, hi, B⟩ := hbk n h0 h1
      exact ⟨i, by omega, by omega, B⟩
    · obtain ⟨k, rfl⟩ := Int.eq_ofNat_of_zero_le h0
      obtain ⟨k', rfl⟩ := Int.eq_ofNat_of_zero_le h2
      have nd := newNames_nd g
      rw [hsp] at nd
      have nd : (newHeads g f).Nodup := (List.nodup_append.mp nd).1
      unfold newHeads at nd
      have hk : k < f.length := by omega
      have hk' : k' < f.length := by omega
      have := filter_uniq (fun n => decide (n ∈ newNames g)) (f.map (·.1)) k k' (gi f (k : Int)).1 nd (by
        rw [List.getElem?_map, List.getElem?_eq_getElem hk, gi_get hk]; rfl) (by
        rw [he, List.getElem?_map, List.getElem?_eq_getElem hk', gi_get hk']; rfl) (by simpa using hn)
      omega
  · cases h
theorem depthL_all {m : Nat} : ∀ {ts : List Tr}, (∀ t ∈ ts, depth t ≤ m) → depthL ts ≤ m
  | [], _ => by rw [depthL]; omega
  | t :: ts, h => by
    rw [depthL]
    have h1 := h t (by simp)
    have h2 := depthL_all (ts := ts) fun u hu => h u (by simp [hu])
    omega
section
variable {g f : Gram} {b : List (Int × Int)}
theorem Row.tree {i n : Int} {ps : List Str} (R : Row g f b i n ps) : ∀ ts, fitsL f ps ts = true → ∃ u, fitsB f (gi f n).1 u = true ∧ lets u = letsL ts := by
  induction R with
  | @stop n ps h0 h1 h2 h3 h4 => exact fun ts h => ⟨.node n ts, fits_node.mpr ⟨h0, h1, rfl, by rw [h3]; exact h⟩, by rw [lets]⟩
  | @step n n' a x y r h0 h1 h2 h3 h4 R ih =>
    intro ts h
    obtain ⟨t, us, rfl, k1, k2⟩ := fits_uncons h
    obtain ⟨u, q1, q2⟩ := ih us k2
    exact ⟨.node n [t, u], fits_node.mpr ⟨h0, h1, rfl, by rw [h3]; exact fits_cons.mpr ⟨k1, fits_cons.mpr ⟨q1, fits_nil.mpr rfl⟩⟩⟩, by rw [lets, letsL, letsL, letsL, letsL, q2, List.append_nil]⟩
theorem PairOk.unpair (P : PairOk g f b) {i n : Int} {ps : List Str} (R : Row g f b i n ps) : ∀ ts, fitsL f (gi f n).2 ts = true → fitsL f ps (Rw.unpair ps.length ts) = true ∧ letsL (Rw.unpair ps.length ts) = letsL ts ∧ okUn ps.length ts := by
  induction R with
  | @stop n ps h0 h1 h2 h3 h4 =>
    intro ts h
    rw [h3] at h
    have hl := fitsL_len h
    have hn : ¬ ts.length < ps.length := by omega
    rw [unpair_stop hn]
    refine ⟨h, rfl, ?_⟩
    generalize ps.length = m at hn
    cases m with
    | zero => trivial
    | succ m => exact fun c => absurd c hn
  | @step n n' a x y r h0 h1 h2 h3 h4 R ih =>
    intro ts h
    rw [h3] at h
    obtain ⟨t, us, rfl, k1, k2⟩ := fits_uncons h
    obtain ⟨v, vs, rfl, k3, k4⟩ := fits_uncons k2
    have k4 := fits_nil.mp k4
    subst k4
    have hl := name_letter' (newNames_name h4)
    match v, k3 with
    | .leaf s, k3 => rw [(fits_leaf.mp k3).2] at hl; cases hl
    | .node k ws, k3 =>
      obtain ⟨j0, j1, j2, j3⟩ := fits_node.mp k3
      obtain ⟨a0, a1, _⟩ := R.at0
      have e : k = n' := P.uniq k n' j0 j1 a0 a1 j2 (by rw [j2]; exact h4)
      subst e
      obtain ⟨q1, q2, q3⟩ := ih ws j3
      have hlt : [t, Tr.node k ws].length < (x :: y :: r).length + 1 := by simp
      rw [List.length_cons (a := a), unpair_go hlt]
      refine ⟨fits_cons.mpr ⟨k1, q1⟩, ?_, fun _ => ⟨t, k, ws, [], rfl, q3⟩⟩
      rw [letsL, q2, letsL, letsL, letsL, lets, List.append_nil]
abbrev Old (g : Gram) (p : Str) : Prop := isLetter p = true ∨ p ∈ namesBy g
theorem WF.oldPart (W : WF g) {r : Rule} (hr : r ∈ g) {p : Str} (hp : p ∈ r.2) : Old g p := by
  rcases W.part r hr p hp with e | ⟨_, e⟩
  · exact .inl e
  · exact .inr (namesBy_mem.mpr (head_mem.mp e))
theorem leadP_leaf (g : Gram) (book : List (Int × Int)) (s : Str) : leadP g book (.leaf s) = .leaf s := by rw [leadP]
theorem PairOk.lead (W : WF g) (P : PairOk g f b) : ∀ (s : Nat) (t : Tr), sizeOf t ≤ s → ∀ p, Old g p → fitsB f p t = true → fitsB g p (leadP g b t) = true ∧ lets (leadP g b t) = lets t ∧ depth (leadP g b t) ≤ depth t ∧ InP g b t
  | 0, .leaf s, hs, _, _, _ => by simp at hs
  | 0, .node n ts, hs, _, _, _ => by simp at hs
  | s + 1, .leaf x, _, p, _, h => by
    rw [leadP_leaf]
    exact ⟨fits_leaf.mpr (fits_leaf.mp h), rfl, Nat.le_refl _, .leaf x⟩
  | s + 1, .node n ts, hs, p, hp, h => by
    obtain ⟨h1, h2, h3, h4⟩ := fits_node.mp h
    obtain ⟨i, i0, i1, ps, R, hps, hold⟩ := P.back n h1 h2
    have hb := R.at0.2.2
    have hx : (gi f n).1 ∉ newNames g := fun hn => by
      rw [h3] at hn
      rcases hp with e | e
      · rw [name_letter' (newNames_name hn)] at e; cases e
      · exact (newNames_mem hn).1 e
    rcases hold with q | ⟨q1, q2⟩
    · exact absurd q hx
    · subst q2
      obtain ⟨k1, k2, k3⟩ := P.unpair R ts h4
      have hr : gi g i ∈ g := gi_mem i0 i1
      have hsz : ∀ t ∈ Rw.unpair (gi g i).2.length ts, sizeOf t ≤ s := fun t ht => by
        have := unpair_size _ _ t ht
        simp at hs; omega
      have hdu : depthL (Rw.unpair (gi g i).2.length ts) ≤ depthL ts := depthL_all fun t ht => unpair_depth _ _ t ht
      have all : ∀ (us : List Tr) (qs : List Str), (∀ t ∈ us, sizeOf t ≤ s) → (∀ q ∈ qs, Old g q) → fitsL f qs us = true → fitsL g qs (us.map (leadP g b)) = true ∧ letsL (us.map (leadP g b)) = letsL us ∧ depthL (us.map (leadP g b)) ≤ depthL us ∧ ∀ t ∈ us, InP g b t := by
        intro us
        induction us with
        | nil =>
          intro qs _ _ hq
          cases qs with
          | nil => exact ⟨fits_nil.mpr rfl, rfl, Nat.le_refl _, fun t h => by cases h⟩
          | cons q qs => rw [fitsL] at hq; cases hq
        | cons u us ih =>
          intro qs hu ho hq
          cases qs with
          | nil => rw [fitsL] at hq; cases hq
          | cons q qs =>
            obtain ⟨c1, c2⟩ := fits_cons.mp hq
            obtain ⟨a1, a2, a3, a4⟩ := PairOk.lead W P s u (hu u (by simp)) q (ho q (by simp)) c1
            obtain ⟨b1, b2, b3, b4⟩ := ih qs (fun t ht => hu t (by simp [ht])) (fun t ht => ho t (by simp [ht])) c2
            rw [List.map_cons, letsL, letsL, depthL, depthL, a2, b2]
            refine ⟨fits_cons.mpr ⟨a1, b1⟩, rfl, by omega, fun t ht => ?_⟩
            rcases List.mem_cons.mp ht with e | e
            · subst e; exact a4
            · exact b4 t e
      obtain ⟨c1, c2, c3, c4⟩ := all _ _ hsz (fun q hq => W.oldPart hr hq) k1
      rw [leadP_node, hb]
      refine ⟨fits_node.mpr ⟨i0, i1, by rw [← q1, h3], c1⟩, by rw [lets, lets, c2, k2], by rw [depth, depth]; omega, ?_⟩
      have h6 := W.six _ hr
      refine .node h1 (by rw [P.len]; exact h2) (by rw [hb]; exact i0) (by rw [hb]; exact i1) (by rw [hb]; exact k3) ?_ (by rw [hb]; exact c4)
      rw [hb, ← fitsL_len k1]; omega
mutual
theorem PairOk.lay (W : WF g) (P : PairOk g f b) : ∀ (t : Tr) (p : Str), fitsB g p t = true → ∃ u, fitsB f p u = true ∧ lets u = lets t
  | .leaf s, p, h => ⟨.leaf s, fits_leaf.mpr (fits_leaf.mp h), rfl⟩
  | .node n ts, p, h => by
    obtain ⟨h1, h2, h3, h4⟩ := fits_node.mp h
    obtain ⟨us, q1, q2⟩ := P.layL W ts _ h4
    obtain ⟨m, e, R⟩ := P.start n h1 h2
    obtain ⟨u, k1, k2⟩ := R.tree us q1
    exact ⟨u, by rw [← h3, ← e]; exact k1, by rw [k2, q2, lets]⟩
theorem PairOk.layL (W : WF g) (P : PairOk g f b) : ∀ (ts : List Tr) (ps : List Str), fitsL g ps ts = true → ∃ us, fitsL f ps us = true ∧ letsL us = letsL ts
  | [], [], _ => ⟨[], by rw [fitsL], rfl⟩
  | [], _ :: _, h => by rw [fitsL] at h; cases h
  | _ :: _, [], h => by rw [fitsL] at h; cases h
  | t :: ts, p :: ps, h => by
    obtain ⟨h1, h2⟩ := fits_cons.mp h
    obtain ⟨u, a1, a2⟩ := P.lay W t p h1
    obtain ⟨us, b1, b2⟩ := P.layL W ts ps h2
    exact ⟨u :: us, fits_cons.mpr ⟨a1, b1⟩, by rw [letsL, letsL, a2, b2]⟩
end
theorem PairOk.has (P : PairOk g f b) {p : Str} (h : p ∈ namesBy g) : p ∈ f.map (·.1) := by
  obtain ⟨r, hr, e⟩ := namesBy_mem.mp h
  obtain ⟨i, i0, i1, ei⟩ := mem_gi hr
  obtain ⟨n, k1, R⟩ := P.start i i0 i1
  obtain ⟨a0, a1, _⟩ := R.at0
  exact head_mem.mpr ⟨_, gi_mem a0 a1, by rw [k1, ei, e]⟩
theorem PairOk.parts (P : PairOk g f b) {r : Rule} (h : r ∈ f) {p : Str} (hp : p ∈ r.2) : (p ∈ newNames g ∧ p ∈ f.map (·.1)) ∨ ∃ q ∈ g, p ∈ q.2 := by
  obtain ⟨n, n0, n1, e⟩ := mem_gi h
  obtain ⟨i, i0, i1, ps, R, hps, _⟩ := P.back n n0 n1
  subst e
  cases R with
  | stop h0 h1 h2 h3 h4 => rw [h3] at hp; exact .inr ⟨_, gi_mem i0 i1, hps p hp⟩
  | @step _ n' a x y r h0 h1 h2 h3 h4 R =>
    obtain ⟨a0, a1, _⟩ := R.at0
    rw [h3] at hp
    simp at hp
    rcases hp with e | e
    · subst e; exact .inr ⟨_, gi_mem i0 i1, hps p (by simp)⟩
    · subst e; exact .inl ⟨h4, head_mem.mpr ⟨_, gi_mem a0 a1, rfl⟩⟩
theorem PairOk.wf (W : WF g) (P : PairOk g f b) : WF f where
  pos := by
    obtain ⟨n, _, R⟩ := P.start 0 (Int.le_refl 0) (by have := W.pos; omega)
    obtain ⟨a0, a1, _⟩ := R.at0
    omega
  le := P.le
  nd := P.nd
  name := fun r h => by
    obtain ⟨n, n0, n1, e⟩ := mem_gi h
    obtain ⟨i, i0, i1, ps, R, hps, hold⟩ := P.back n n0 n1
    subst e
    rcases hold with q | ⟨q, _⟩
    · exact newNames_name q
    · rw [q]; exact W.name _ (gi_mem i0 i1)
  six := fun r h => Nat.le_trans (P.two r h) (by decide)
  part := fun r h p hp => by
    rcases P.parts h hp with ⟨a, c⟩ | ⟨q, hq, hpq⟩
    · exact .inr ⟨newNames_name a, c⟩
    · rcases W.part q hq p hpq with e | ⟨e1, e2⟩
      · exact .inl e
      · exact .inr ⟨e1, P.has (namesBy_mem.mpr (head_mem.mp e2))⟩
theorem PairOk.makes (W : WF g) (A : AllMk g) (P : PairOk g f b) : AllMk f := by
  intro r hr
  have hn := (P.wf W).name r hr
  obtain ⟨n, n0, n1, e⟩ := mem_gi hr
  obtain ⟨i, i0, i1, ps, R, hps, hold⟩ := P.back n n0 n1
  subst e
  obtain ⟨ts, hts⟩ := fits_all (g := f) (ps := ps) fun p hp => by
    obtain ⟨t, ht⟩ := A.part W (gi_mem i0 i1) (hps p hp)
    obtain ⟨u, hu, _⟩ := P.lay W t p ht
    exact ⟨u, hu⟩
  obtain ⟨u, hu, _⟩ := R.tree ts hts
  rcases tree_make u _ hu with k | k
  · rw [name_letter' hn] at k; cases k
  · exact k
end
end Rw

/-! RwH: plain laws of the five turns together -/
namespace Rw
open PySem (Str)
theorem WF.dropped {g f : Gram} {b : List Int} (W : WF g) (h : dropped g = .ok (f, b)) : WF f := (drop_ok W h).wf W
theorem WF.emptied {g f : Gram} {b : List Entry} (W : WF g) (h : emptied g = .ok (f, b)) : WF f := (emp_ok h).wf W
theorem WF.straightened {g f : Gram} {b : List (List Int)} (W : WF g) (h : straightened g = .ok (f, b)) : WF f := (str_ok h).wf W
theorem WF.paired {g f : Gram} {b : List (Int × Int)} (W : WF g) (h : paired g = .ok (f, b)) : WF f := (pair_ok W h).wf W
def isSab (s : Str) : Bool := decide (s = "S") || decide (s = "A") || decide (s = "B")
def isAbc (s : Str) : Bool := decide (s = "a") || decide (s = "b") || decide (s = "c")
/-- the grammars that the law draws -/
structure GW (g : Gram) : Prop where
  wf : WF g
  sab : ∀ r ∈ g, isSab r.1 = true
  abc : ∀ r ∈ g, ∀ p ∈ r.2, isLetter p = true → isAbc p = true
structure LedPre (g : Gram) (bs : Books) (t : Tr) : Prop where
  sm : Sm (bs.b3.map (gi (straightOf g)))
  i3 : ∀ i ∈ bs.b3, 0 ≤ i ∧ i < (straightOf g).length
  l3 : bs.b3.length ≤ 40
  t0 : depth t ≤ 40
  p0 : InP (bs.b3.map (gi (straightOf g))) bs.b4 t
  t1 : depth (leadP (bs.b3.map (gi (straightOf g))) bs.b4 t) ≤ 40
  p1 : inB bs.b3.length (leadP (bs.b3.map (gi (straightOf g))) bs.b4 t) = true
  t2 : depth (renum bs.b3 (leadP (bs.b3.map (gi (straightOf g))) bs.b4 t)) ≤ 40
  p2 : inS bs.b2 (renum bs.b3 (leadP (bs.b3.map (gi (straightOf g))) bs.b4 t)) = true
  t3 : depth (leadS bs.b2 (renum bs.b3 (leadP (bs.b3.map (gi (straightOf g))) bs.b4 t))) ≤ 160
  p3 : inE bs.b1 (leadS bs.b2 (renum bs.b3 (leadP (bs.b3.map (gi (straightOf g))) bs.b4 t))) = true
  t4 : depth (leadE bs.b1 (leadS bs.b2 (renum bs.b3 (leadP (bs.b3.map (gi (straightOf g))) bs.b4 t)))) ≤ 170
  p4 : inB bs.b0.length (leadE bs.b1 (leadS bs.b2 (renum bs.b3 (leadP (bs.b3.map (gi (straightOf g))) bs.b4 t)))) = true
  t5 : depth (leadAll (straightOf g) bs t) ≤ 170
theorem plain_ok {g tw : Gram} {bs : Books} (h : plain g = .ok (tw, bs)) : ∃ fewer full straight few, Rw.dropped g = .ok (fewer, bs.b0) ∧ Rw.emptied fewer = .ok (full, bs.b1) ∧ Rw.straightened full = .ok (straight, bs.b2) ∧ Rw.dropped straight = .ok (few, bs.b3) ∧ Rw.paired few = .ok (tw, bs.b4) ∧ straightOf g = straight := by
  unfold plain at h
  cases e0 : Rw.dropped g with
  | error k => rw [e0] at h; cases h
  | ok x0 =>
  obtain ⟨fewer, b0⟩ := x0
  rw [e0] at h
  have h : (Rw.emptied fewer >>= _) = _ := h
  cases e1 : Rw.emptied fewer with
  | error k => rw [e1] at h; cases h
  | ok x1 =>
  obtain ⟨full, b1⟩ := x1
  rw [e1] at h
  have h : (Rw.straightened full >>= _) = _ := h
  cases e2 : Rw.straightened full with
  | error k => rw [e2] at h; cases h
  | ok x2 =>
  obtain ⟨straight, b2⟩ := x2
  rw [e2] at h
  have h : (Rw.dropped straight >>= _) = _ := h
  cases e3 : Rw.dropped straight with
  | error k => rw [e3] at h; cases h
  | ok x3 =>
  obtain ⟨few, b3⟩ := x3
  rw [e3] at h
  have h : (Rw.paired few >>= _) = _ := h
  cases e4 : Rw.paired few with
  | error k => rw [e4] at h; cases h
  | ok x4 =>
  obtain ⟨twos, b4⟩ := x4
  rw [e4] at h
  have h : Except.ok (twos, (⟨b0, b1, b2, b3, b4⟩ : Books)) = Except.ok (tw, bs) := h
  cases h
  refine ⟨fewer, full, straight, few, rfl, e1, e2, e3, e4, ?_⟩
  unfold straightOf
  rw [e0]
  show (match Rw.emptied fewer with | .ok (full, _) => _ | .error _ => _) = _
  rw [e1]
  show (match Rw.straightened full with | .ok (straight, _) => straight | .error _ => []) = _
  rw [e2]

/-- the five turns -/
structure Turns (g fewer full straight few tw : Gram) (bs : Books) : Prop where
  w0 : WF g
  w1 : WF fewer
  w2 : WF full
  w3 : WF straight
  w4 : WF few
  w5 : WF tw
  d0 : DropOk g fewer bs.b0
  e1 : EmpOk fewer full bs.b1
  s2 : StrOk full straight bs.b2
  d3 : DropOk straight few bs.b3
  p4 : PairOk few tw bs.b4
  st : straightOf g = straight
theorem turns {g tw : Gram} {bs : Books} (W : WF g) (h : plain g = .ok (tw, bs)) : ∃ fewer full straight few, Turns g fewer full straight few tw bs := by
  obtain ⟨fewer, full, straight, few, q0, q1, q2, q3, q4, q5⟩ := plain_ok h
  have w1 := W.dropped q0
  have w2 := w1.emptied q1
  have w3 := w2.straightened q2
  have w4 := w3.dropped q3
  exact ⟨fewer, full, straight, few, W, w1, w2, w3, w4, w4.paired q4, drop_ok W q0, emp_ok q1, str_ok q2, drop_ok w3 q3, pair_ok w4 q4, q5⟩
section
variable {g fewer full straight few tw : Gram} {bs : Books}
theorem Turns.h1 (T : Turns g fewer full straight few tw bs) : (gi fewer 0).1 = (gi g 0).1 := T.d0.first
theorem Turns.h2 (T : Turns g fewer full straight few tw bs) : (gi full 0).1 = (gi g 0).1 := (T.e1.head0 T.w1).trans T.h1
theorem Turns.h3 (T : Turns g fewer full straight few tw bs) : (gi straight 0).1 = (gi g 0).1 := (T.s2.head0 T.w2).trans T.h2
theorem Turns.h4 (T : Turns g fewer full straight few tw bs) : (gi few 0).1 = (gi g 0).1 := T.d3.first.trans T.h3
theorem Turns.h5 (T : Turns g fewer full straight few tw bs) : (gi tw 0).1 = (gi g 0).1 := T.p4.head0.trans T.h4
def sabL : List Str := ["S", "A", "B"]
theorem sab_mem {s : Str} (h : isSab s = true) : s ∈ sabL := by
  unfold isSab at h
  rw [Bool.or_eq_true, Bool.or_eq_true, decide_eq_true_eq, decide_eq_true_eq, decide_eq_true_eq] at h
  unfold sabL
  rcases h with (e | e) | e <;> subst e <;> simp
theorem Turns.fewer_sab (T : Turns g fewer full straight few tw bs) (W : GW g) : ∀ r ∈ fewer, r.1 ∈ sabL := fun r hr => by
  obtain ⟨_, _, _, e⟩ := T.d0.rule hr
  exact sab_mem (W.sab r e)
theorem Turns.full_sab (T : Turns g fewer full straight few tw bs) (W : GW g) : ∀ r ∈ full, r.1 ∈ sabL := fun r hr => by
  obtain ⟨q, hq, way, _, e, _⟩ := T.e1.rule T.w1 hr
  rw [e]; exact T.fewer_sab W q hq
theorem Turns.chains (T : Turns g fewer full straight few tw bs) (W : GW g) : ∀ name ∈ namesBy full, (chainsFrom full name).length ≤ 3 := fun name hn => by
  obtain ⟨r, hr, e⟩ := namesBy_mem.mp hn
  refine chains_short (M := sabL) (e ▸ T.full_sab W r hr) fun q hq hl => ?_
  obtain ⟨e1, e2⟩ := lone_parts hl
  rcases T.w2.part q hq (gi q.2 0) (by rw [e1]; simp [gi]) with k | ⟨_, k⟩
  · rw [e2] at k; cases k
  · obtain ⟨x, hx, e⟩ := head_mem.mp k
    rw [← e]; exact T.full_sab W x hx
theorem Turns.hollow (T : Turns g fewer full straight few tw bs) (W : GW g) : (emptyTrees fewer).length ≤ 3 := by
  have I := (emptyTrees_ok fewer).1
  have := nodup_le (m := sabL) I.nd fun k hk => by
    obtain ⟨x, hx, e⟩ := head_mem.mp (I.head k hk)
    rw [← e]; exact T.fewer_sab W x hx
  rw [List.length_map] at this
  exact this
/-- a tree of the plain grammar led back -/
structure LedAll (g fewer full straight few tw : Gram) (bs : Books) (t t1 t2 t3 t4 t5 : Tr) : Prop where
  f1 : fitsB few (gi g 0).1 t1 = true
  f2 : fitsB straight (gi g 0).1 t2 = true
  f3 : fitsB full (gi g 0).1 t3 = true
  f4 : fitsB fewer (gi g 0).1 t4 = true
  f5 : fitsB g (gi g 0).1 t5 = true
  l3 : lets t3 = lets t
  l5 : lets t5 = lets t
  m1 : depth t1 ≤ depth t
  m2 : depth t2 = depth t1
  m3 : depth t3 ≤ 4 * depth t2
  m4 : depth t4 ≤ depth t3 + 3
  m5 : depth t5 = depth t4
  p0 : InP few bs.b4 t
  p1 : inB bs.b3.length t1 = true
  p2 : inS bs.b2 t2 = true
  p3 : inE bs.b1 t3 = true
  p4 : inB bs.b0.length t4 = true
theorem Turns.led (T : Turns g fewer full straight few tw bs) (W : GW g) {t : Tr} (ht : fitsB tw (gi tw 0).1 t = true) :
    LedAll g fewer full straight few tw bs t (leadP few bs.b4 t) (renum bs.b3 (leadP few bs.b4 t)) (leadS bs.b2 (renum bs.b3 (leadP few bs.b4 t))) (leadE bs.b1 (leadS bs.b2 (renum bs.b3 (leadP few bs.b4 t)))) (renum bs.b0 (leadE bs.b1 (leadS bs.b2 (renum bs.b3 (leadP few bs.b4 t))))) := by
  rw [T.h5] at ht
  have hold : Old few (gi g 0).1 := .inr (namesBy_mem.mpr ⟨_, T.w4.zero, T.h4⟩)
  obtain ⟨a1, a2, a3, a4⟩ := T.p4.lead T.w4 _ t (Nat.le_refl _) _ hold ht
  obtain ⟨b1, b2, b3, b4⟩ := T.d3.lead _ _ a1
  obtain ⟨c1, c2, c3, c4⟩ := T.s2.lead (T.chains W) _ _ b1
  obtain ⟨d1, d2, d3, d4⟩ := T.e1.lead T.w1 _ _ c1
  obtain ⟨e1, e2, e3, e4⟩ := T.d0.lead _ _ d1
  have hh := T.hollow W
  exact ⟨a1, b1, c1, d1, e1, by rw [c2, b2, a2], by rw [e2, d2, c2, b2, a2], a3, b3, c3, by omega, e3, a4, b4, c4, d4, e4⟩
theorem Turns.eq4 (T : Turns g fewer full straight few tw bs) : bs.b3.map (gi (straightOf g)) = few := by rw [T.st, ← T.d3.eq]
theorem Turns.all (T : Turns g fewer full straight few tw bs) (t : Tr) : leadAll (straightOf g) bs t = renum bs.b0 (leadE bs.b1 (leadS bs.b2 (renum bs.b3 (leadP few bs.b4 t)))) := by
  unfold leadAll; rw [T.eq4]
end
theorem led_pre {g tw : Gram} {bs : Books} {t : Tr} (W : GW g) (h : plain g = .ok (tw, bs)) (ht : isTree tw t = true) : LedPre g bs t := by
  obtain ⟨fewer, full, straight, few, T⟩ := turns W.wf h
  unfold isTree isTreeOf isSmall at ht
  rw [Bool.and_eq_true, Bool.and_eq_true, decide_eq_true_eq, decide_eq_true_eq] at ht
  obtain ⟨ht, _, hd⟩ := ht
  have L := T.led W ht
  have m1 := L.m1
  have m2 := L.m2
  have m3 := L.m3
  have m4 := L.m4
  have m5 := L.m5
  have hl := T.w4.le
  have e0 := T.all t
  refine ⟨?_, ?_, ?_, hd, ?_, ?_, ?_, ?_, ?_, ?_, ?_, ?_, ?_, ?_⟩
  · rw [T.eq4]; exact T.w4.sm
  · rw [T.st]; exact T.d3.range
  · rw [← T.d3.len]; exact hl
  · rw [T.eq4]; exact L.p0
  · rw [T.eq4]; omega
  · rw [T.eq4]; exact L.p1
  · rw [T.eq4]; omega
  · rw [T.eq4]; exact L.p2
  · rw [T.eq4]; omega
  · rw [T.eq4]; exact L.p3
  · rw [T.eq4]; omega
  · rw [T.eq4]; exact L.p4
  · rw [e0]; omega
end Rw

/-! RwPn: rulewright/plain.py -/
namespace Rw
open PySem PyProof.Rows L2
abbrev rPair2 : Rp (Int × Int) := Rp.int.pair Rp.int
def rBooks : Rp Books := ⟨fun K G v b => ∃ p v0 v1 v2 v3 v4, v = .ref p ∧ G p = some (.lst [v0, v1, v2, v3, v4]) ∧ Rp.int.lst.rel K G v0 b.b0 ∧ rEntry.lst.rel K G v1 b.b1 ∧ Rp.int.tup.lst.rel K G v2 b.b2 ∧ Rp.int.lst.rel K G v3 b.b3 ∧ rPair2.lst.rel K G v4 b.b4,
  fun s ⟨p, v0, v1, v2, v3, v4, e, h, r0, r1, r2, r3, r4⟩ => ⟨p, v0, v1, v2, v3, v4, e, s _ _ h, Rp.int.lst.mono s r0, rEntry.lst.mono s r1, Rp.int.tup.lst.mono s r2, Rp.int.lst.mono s r3, rPair2.lst.mono s r4⟩⟩
section
variable {X : Cx} {B : Bs} {es : List Sl} {a0 a1 a2 a3 a4 : Expr} {pos : Pos} {b : Books}
theorem pr_books (h : PAr X B es [a0, a1, a2, a3, a4] [Rp.int.lst.at b.b0, rEntry.lst.at b.b1, Rp.int.tup.lst.at b.b2, Rp.int.lst.at b.b3, rPair2.lst.at b.b4]) : PR X B es (.List [a0, a1, a2, a3, a4] pos) (rBooks.at b) :=
  pr_of (pe_lst h) fun σ G H Q E q => ⟨G, E, fun vs G1 H1 s1 r1 => by
    cases r1 with
    | cons q0 r1 => cases r1 with
      | cons q1 r1 => cases r1 with
        | cons q2 r1 => cases r1 with
          | cons q3 r1 => cases r1 with
            | cons q4 r1 =>
              cases r1
              rename_i v0 v1 v2 v3 v4
              refine ⟨by show 5 ≤ sizeLine; decide, fun p hp => q _ _ _ (s1.trans (Stp.new s1.gh hp _)) ?_⟩
              have m := same_upd (p := p) (.lst [v0, v1, v2, v3, v4]) (s1.gh.free hp)
              exact ⟨p, _, _, _, _, _, rfl, upd_same, Rp.int.lst.mono m q0, rEntry.lst.mono m q1, Rp.int.tup.lst.mono m q2, Rp.int.lst.mono m q3, rPair2.lst.mono m q4⟩⟩
theorem ix_B0 : Ix X (rBooks.at b) (Rp.int.at 0) (Rp.int.lst.at b.b0) := ⟨_, ix_list, fun G H u v Q s ⟨p, v0, v1, v2, v3, v4, e, h, r0, r1, r2, r3, r4⟩ hy q => ⟨p, _, 0, v0, e, hy, SqL.of (s _ _ h), rfl, q _ G H (Stp.refl s) r0⟩⟩
theorem ix_B1 : Ix X (rBooks.at b) (Rp.int.at 1) (rEntry.lst.at b.b1) := ⟨_, ix_list, fun G H u v Q s ⟨p, v0, v1, v2, v3, v4, e, h, r0, r1, r2, r3, r4⟩ hy q => ⟨p, _, 1, v1, e, hy, SqL.of (s _ _ h), rfl, q _ G H (Stp.refl s) r1⟩⟩
theorem ix_B2 : Ix X (rBooks.at b) (Rp.int.at 2) (Rp.int.tup.lst.at b.b2) := ⟨_, ix_list, fun G H u v Q s ⟨p, v0, v1, v2, v3, v4, e, h, r0, r1, r2, r3, r4⟩ hy q => ⟨p, _, 2, v2, e, hy, SqL.of (s _ _ h), rfl, q _ G H (Stp.refl s) r2⟩⟩
theorem ix_B3 : Ix X (rBooks.at b) (Rp.int.at 3) (Rp.int.lst.at b.b3) := ⟨_, ix_list, fun G H u v Q s ⟨p, v0, v1, v2, v3, v4, e, h, r0, r1, r2, r3, r4⟩ hy q => ⟨p, _, 3, v3, e, hy, SqL.of (s _ _ h), rfl, q _ G H (Stp.refl s) r3⟩⟩
theorem ix_B4 : Ix X (rBooks.at b) (Rp.int.at 4) (rPair2.lst.at b.b4) := ⟨_, ix_list, fun G H u v Q s ⟨p, v0, v1, v2, v3, v4, e, h, r0, r1, r2, r3, r4⟩ hy q => ⟨p, _, 4, v4, e, hy, SqL.of (s _ _ h), rfl, q _ G H (Stp.refl s) r4⟩⟩
end
section
variable (P : Program) (w : World) (K : PySem.W.Frag) (mg : Str → Option Value) (base : Heap) (cls : Kd → Addr)
abbrev D_plain := Df P w K mg base (L2N.CX P w) "plain" ["grammar"] 6 (spE K cls (ι := Gram) (fun g => [.dat rGram g]) WF (rGram.pair rBooks) plain)
abbrev D_led_plain := Df P w K mg base (L2N.CX P w) "led_plain" ["grammar", "tree"] 180 (spE K cls (ι := Gram × Tr) (fun i => [.dat rGram i.1, .dat Rp.tr i.2]) (fun i => GW i.1 ∧ depth i.2 ≤ 150) Rp.tr (fun i => ledPlain i.1 i.2))
end
section
variable {P : Program} {w : World} {K : PySem.W.Frag} {mg : Str → Option Value} {base : Heap} {cls : Kd → Addr}
theorem ok_plain (T : Top K mg "plain" st_plain ["grammar"]) (D1 : D_dropped P w K mg base cls) (D2 : D_emptied P w K mg base cls) (D3 : D_straightened P w K mg base cls) (D4 : D_paired P w K mg base cls) : D_plain P w K mg base cls := T.df fun f fd F => by
  refine fn_exc F sc_plain (fun _ => rfl) no1 fun g W cdv Aa outer sh H E B hr hE => ?_
  have W : WF g := W
  show PSl _ _ [.dat rGram g, .un, .un, .un, .un, .un, .un, .un, .un, .un, .un] _ _
  refine ss_pairX (r := Rw.dropped g) 1 2 (pr_callX D1 hr g (par_cons (pr_var 0) par_nil) W (L2N.passes_call (L2N.takes_of rfl rfl rfl rfl) fun _ _ _ _ h => h)) (fun ⟨fewer, b0⟩ e0 => ?_) (fun k e0 H' s => hE k (by show plain g = _; unfold plain; rw [e0]; rfl) H' s) rfl sc_plain.nd (tg_pair 1 2 rfl sc_plain.nd)
  have W1 := W.dropped e0
  refine ss_pairX (r := Rw.emptied fewer) 3 4 (pr_callX D2 hr fewer (par_cons (pr_var 1) par_nil) W1 (L2N.passes_call (L2N.takes_of rfl rfl rfl rfl) fun _ _ _ _ h => h)) (fun ⟨full, b1⟩ e1 => ?_) (fun k e1 H' s => hE k (by show plain g = _; unfold plain; rw [e0]; show (Rw.emptied fewer >>= _) = _; rw [e1]; rfl) H' s) rfl sc_plain.nd (tg_pair 3 4 rfl sc_plain.nd)
  have W2 := W1.emptied e1
  refine ss_pairX (r := Rw.straightened full) 5 6 (pr_callX D3 hr full (par_cons (pr_var 3) par_nil) W2 (L2N.passes_call (L2N.takes_of rfl rfl rfl rfl) fun _ _ _ _ h => h)) (fun ⟨straight, b2⟩ e2 => ?_) (fun k e2 H' s => hE k (by show plain g = _; unfold plain; rw [e0]; show (Rw.emptied fewer >>= _) = _; rw [e1]; show (Rw.straightened full >>= _) = _; rw [e2]; rfl) H' s) rfl sc_plain.nd (tg_pair 5 6 rfl sc_plain.nd)
  have W3 := W2.straightened e2
  refine ss_pairX (r := Rw.dropped straight) 7 8 (pr_callX D1 hr straight (par_cons (pr_var 5) par_nil) W3 (L2N.passes_call (L2N.takes_of rfl rfl rfl rfl) fun _ _ _ _ h => h)) (fun ⟨few, b3⟩ e3 => ?_) (fun k e3 H' s => hE k (by show plain g = _; unfold plain; rw [e0]; show (Rw.emptied fewer >>= _) = _; rw [e1]; show (Rw.straightened full >>= _) = _; rw [e2]; show (Rw.dropped straight >>= _) = _; rw [e3]; rfl) H' s) rfl sc_plain.nd (tg_pair 7 8 rfl sc_plain.nd)
  have W4 := W3.dropped e3
  refine ss_pairX (r := Rw.paired few) 9 10 (pr_callX D4 hr few (par_cons (pr_var 7) par_nil) W4 (L2N.passes_call (L2N.takes_of rfl rfl rfl rfl) fun _ _ _ _ h => h)) (fun ⟨twos, b4⟩ e4 => ?_) (fun k e4 H' s => hE k (by show plain g = _; unfold plain; rw [e0]; show (Rw.emptied fewer >>= _) = _; rw [e1]; show (Rw.straightened full >>= _) = _; rw [e2]; show (Rw.dropped straight >>= _) = _; rw [e3]; show (Rw.paired few >>= _) = _; rw [e4]; rfl) H' s) rfl sc_plain.nd (tg_pair 9 10 rfl sc_plain.nd)
  refine ss_ret (pr_pair (pr_var 9) (pr_books (b := ⟨b0, b1, b2, b3, b4⟩) (par_cons (pr_var 2) (par_cons (pr_var 4) (par_cons (pr_var 6) (par_cons (pr_var 8) (par_cons (pr_var 10) par_nil))))))) fun G v r => ⟨(twos, ⟨b0, b1, b2, b3, b4⟩), ?_, r⟩
  show plain g = _
  unfold plain; rw [e0]; show (Rw.emptied fewer >>= _) = _; rw [e1]; show (Rw.straightened full >>= _) = _; rw [e2]; show (Rw.dropped straight >>= _) = _; rw [e3]; show (Rw.paired few >>= _) = _; rw [e4]; rfl
theorem ok_led_plain (T : Top K mg "led_plain" st_led_plain ["grammar", "tree"]) (D1 : D_plain P w K mg base cls) (D2 : D_must_be_turned_tree P w K mg base cls 150) (D3 : D_dropped P w K mg base cls) (D4 : D_emptied P w K mg base cls) (D5 : D_straightened P w K mg base cls)
    (D6 : D_leadP P w K mg base "lead_paired" 40) (D7 : D_renum P w K mg base "renumbered" 40) (D8 : D_leadS P w K mg base "lead_straightened" 40) (D9 : D_leadE P w K mg base "lead_emptied" 160) (D10 : D_renum P w K mg base "renumbered" 170) (D11 : D_within P w K mg base cls 170) : D_led_plain P w K mg base cls := T.df fun f fd F => by
  refine fn_exc F sc_led_plain (fun _ => rfl) no2 fun ⟨g, t⟩ ⟨W, hd⟩ cdv Aa outer sh H E B hr hE => ?_
  have W : GW g := W
  have hd : depth t ≤ 150 := hd
  show PSl _ _ [.dat rGram g, .dat Rp.tr t, .un, .un, .un, .un, .un] _ _
  refine ss_pairX (r := Rw.plain g) 2 3 (pr_callX D1 (hr.mono (by decide)) g (par_cons (pr_var 0) par_nil) W.wf (L2N.passes_call (L2N.takes_of rfl rfl rfl rfl) fun _ _ _ _ h => h)) (fun ⟨tw, bs⟩ e0 => ?_) (fun k e0 H' s => hE k (by show ledPlain g t = _; unfold ledPlain; rw [e0]; rfl) H' s) rfl sc_led_plain.nd (tg_pair 2 3 rfl sc_led_plain.nd)
  obtain ⟨fewer, full, straight, few, q0, q1, q2, q3, q4, q5⟩ := plain_ok e0
  have W1 := W.wf.dropped q0
  have W2 := W1.emptied q1
  have W3 := W2.straightened q2
  have W4 := W3.dropped q3
  have W5 := W4.paired q4
  have eL : ledPlain g t = if isTree tw t then within (leadAll (straightOf g) bs t) else .error .noTree := by unfold ledPlain; rw [e0]; rfl
  refine ss_exprX (r := if isTree tw t then .ok () else .error Kd.noTree) (pr_callX D2 (hr.mono (by decide)) (tw, t) (par_cons (pr_var 2) (par_cons (pr_var 1) par_nil)) ⟨W5, hd⟩ (L2N.passes_call (L2N.takes_of rfl rfl rfl rfl) fun _ _ _ _ h => h)) (fun _ e6 => ?_) (fun k e6 H' s => hE k (by
    show ledPlain g t = _
    rw [eL]
    by_cases c : isTree tw t = true
    · rw [if_pos c] at e6; cases e6
    · rw [if_neg c] at e6 ⊢; cases e6; rfl) H' s)
  have hT : isTree tw t = true := by
    by_cases c : isTree tw t = true
    · exact c
    · rw [if_neg c] at e6; cases e6
  rw [if_pos hT] at eL
  have L := led_pre W e0 hT
  have L := L
  obtain ⟨lsm, li3, ll3, lt0, lp0, lt1, lp1, lt2, lp2, lt3, lp3, lt4, lp4, lt5⟩ := L
  rw [q5] at lsm li3 lp0 lt1 lp1 lt2 lp2 lt3 lp3 lt4 lp4 lt5 eL
  refine ss_set 4 (d := straight) (A := rGram) (pr_ix (prx_ok (pr_callX D5 (hr.mono (by decide)) full (par_cons (pr_ix (prx_ok (pr_callX D4 (hr.mono (by decide)) fewer (par_cons (pr_ix (prx_ok (pr_callX D3 (hr.mono (by decide)) g (par_cons (pr_var 0) par_nil) W.wf (L2N.passes_call (L2N.takes_of rfl rfl rfl rfl) fun _ _ _ _ h => h)) q0) pr_int ix_P0) par_nil) W1 (L2N.passes_call (L2N.takes_of rfl rfl rfl rfl) fun _ _ _ _ h => h)) q1) pr_int ix_P0) par_nil) W2 (L2N.passes_call (L2N.takes_of rfl rfl rfl rfl) fun _ _ _ _ h => h)) q2) pr_int ix_P0) ?_ sc_led_plain.nd
  show PSl _ _ [.dat rGram g, .dat Rp.tr t, .dat rGram tw, .dat rBooks bs, .dat rGram straight, .un, .un] _ _
  refine ss_set 5 (pr_call D6 (hr.mono (by decide)) (bs.b3.map (gi straight), bs.b4, t) (par_cons (pr_lcm [("number", 6)] (gi straight) (it_list (pr_ix (pr_var 3) pr_int ix_B3)) (fun _ _ _ _ _ => tg_name 6 sc_led_plain.nd) (fun y hy _ _ _ _ _ => pr_ix (pr_l (pr_var 4)) (pr_var 6) (ix_L (atI_gi (li3 y hy).1 (li3 y hy).2))) (small (by omega)) sc_led_plain.nd) (par_cons (pr_ix (pr_var 3) pr_int ix_B4) (par_cons (pr_var 1) par_nil))) ⟨lsm, lt0, lp0⟩) ?_ sc_led_plain.nd
  refine ss_set 5 (pr_call D7 (hr.mono (by decide)) (leadP (bs.b3.map (gi straight)) bs.b4 t, bs.b3) (par_cons (pr_var 5) (par_cons (pr_ix (pr_var 3) pr_int ix_B3) par_nil)) ⟨lt1, lp1⟩) ?_ sc_led_plain.nd
  refine ss_set 5 (pr_call D8 (hr.mono (by decide)) (bs.b2, renum bs.b3 (leadP (bs.b3.map (gi straight)) bs.b4 t)) (par_cons (pr_ix (pr_var 3) pr_int ix_B2) (par_cons (pr_var 5) par_nil)) ⟨lt2, lp2⟩) ?_ sc_led_plain.nd
  refine ss_set 5 (pr_call D9 (hr.mono (by decide)) (bs.b1, leadS bs.b2 (renum bs.b3 (leadP (bs.b3.map (gi straight)) bs.b4 t))) (par_cons (pr_ix (pr_var 3) pr_int ix_B1) (par_cons (pr_var 5) par_nil)) ⟨lt3, lp3⟩) ?_ sc_led_plain.nd
  refine ss_retX (r := within (leadAll straight bs t)) (pr_callX D11 (hr.mono (by decide)) (leadAll straight bs t) (par_cons (pr_call D10 (hr.mono (by decide)) (leadE bs.b1 (leadS bs.b2 (renum bs.b3 (leadP (bs.b3.map (gi straight)) bs.b4 t))), bs.b0) (par_cons (pr_var 5) (par_cons (pr_ix (pr_var 3) pr_int ix_B0) par_nil)) ⟨lt4, lp4⟩) par_nil) lt5 (L2N.passes_call (L2N.takes_of rfl rfl rfl rfl) fun _ _ _ _ h => h)) (fun b hb G v r => ⟨b, ?_, r⟩) (fun k hk H' s => hE k ?_ H' s)
  · show ledPlain g t = _; rw [eL]; exact hb
  · show ledPlain g t = _; rw [eL]; exact hk
end
end Rw

/-! RwLa: more rules: list(text), text.split, a pair from a list, the count's list, x not in xs, 'SAB'.index -/
namespace Rw
open PySem PySem.Spec PyProof.Rows L2
section
variable {X : Cx} {B : Bs} {es : List Sl} {sts : List Stmt} {O : Out} {e a b : Expr} {pos p p' np apos cpos : Pos} {x : Str}
/-! list(text) -/
theorem vals_signs {x : Str} {acc : Array Value} (h : ItemsOf (SignAt x) acc x.cps.size) : Vals ((chars x).map V.str) acc.toList := by
  obtain ⟨h1, h2⟩ := h
  have key : ∀ (l : List Nat) (us : List Value), us.length = l.length → (∀ (j : Nat) (v : Value), us[j]? = some v → ∃ c u, l[j]? = some c ∧ v = .str ⟨#[c]⟩ u) → Vals ((l.map fun c => (⟨#[c]⟩ : Str)).map V.str) us := by
    intro l
    induction l with
    | nil =>
      intro us hl _
      have : us = [] := List.eq_nil_of_length_eq_zero hl
      subst this
      exact .nil
    | cons c l ih =>
      intro us hl hv
      cases us with
      | nil => cases hl
      | cons u us =>
        obtain ⟨c', t, e1, e2⟩ := hv 0 u rfl
        simp at e1
        subst e1; subst e2
        exact .cons ⟨t, rfl⟩ (ih us (by simpa using hl) fun j v hj => by
          obtain ⟨c2, t2, e3, e4⟩ := hv (j + 1) v (by simpa using hj)
          exact ⟨c2, t2, by simpa using e3, e4⟩)
  refine key x.cps.toList acc.toList (by simpa using h1) fun j v hj => ?_
  obtain ⟨c, u, e1, e2⟩ := h2 j v (by simpa using hj)
  exact ⟨c, u, by simpa using e1, e2⟩
theorem cr_listStr (hc : X.calm = true) : CallR X (.type "list") (fun xs H Q => ∃ z : Str, xs = [.str z] ∧ z.length ≤ sizeLine ∧ ∀ l, H l = none → Q (.ref l) (upd H l (.lst ((chars z).map V.str)))) := by
  intro pins s σ H xs us Q I r h
  obtain ⟨z, rfl, hz, q⟩ := h
  obtain ⟨u, rfl, t, rfl⟩ := vals1 r
  refine PySem.call_list_str (I.ok.hd hc) z t (fun h' tk acc' c' kp e it => ?_) hz
  refine ⟨.ref s.heap.objs.size, _, I.laid (t' := tk) kp (Nat.le_refl _) (show ObjOk X.prog X.w _ h' _ (.lst ((chars z).map V.str)) from ⟨by rw [List.length_map]; simp only [chars, List.length_map, Array.length_toList]; exact hz, acc'.toList, c', vals_signs it, by rw [Array.toArray_toList]; exact e⟩), rfl, q _ (I.hok.fresh (Nat.le_refl _))⟩
theorem strs_p {K : PySem.W.Frag} {G : Hp} : ∀ {xs : List Str}, (∀ y ∈ xs, SOk y) → Paired (Rp.str.rel K G) (xs.map V.str) xs
  | [], _ => .nil
  | x :: xs, h => .cons ⟨rfl, h x (by simp)⟩ (strs_p fun y hy => h y (by simp [hy]))
theorem chars_ok {x : Str} (h : SOk x) : ∀ y ∈ chars x, SOk y := by
  intro y hy
  obtain ⟨c, hc, rfl⟩ := List.mem_map.mp hy
  exact strOk_sign h.2 hc
theorem cb_listS (hc : X.calm = true) : Cb X (.type "list") [Rp.str.at x] (Rp.str.lst.at (chars x)) := ⟨_, cr_listStr hc, fun G H vs Q s h q => by
  obtain ⟨v, rfl, e, z⟩ := al1 h
  have hz : x.length ≤ sizeLine := Nat.le_trans z.1 strMax_le
  exact ⟨x, by rw [e], hz, fun l hl => q _ _ _ (Stp.new s hl _) (lst_new s hl (strs_p (chars_ok z)) (by simp only [chars, List.length_map, Array.length_toList]; exact hz))⟩⟩
/-! text.split(sep) -/
theorem pr_split {y : Str} {ws : List Str} (ha : PR X B es a (Rp.str.at x)) (hb : PR X B es b (Rp.str.at y)) (h1 : (y.length == 0) = false) (hw : Txt.split x y = ws) (ok : ∀ z ∈ ws, SOk z) (hl : ws.length ≤ sizeLine)
    (hs : starEach [b] X.env = [(false, eval b X.env)] := by rfl) (hbase : attributeBase a "split" X.env (eval a X.env) = eval a X.env := by rfl) (hline : (apos.endLine == pos.line) = true := by rfl) :
    PR X B es (.Call (.Attribute a "split" apos) [b] [] pos) (Rp.str.lst.at ws) :=
  pr_of (pe_m1 F.slot_str_split F.type_str_split mt_split ha hb hs hbase hline) fun σ G H Q E q => ⟨G, E, fun v G1 H1 s1 ⟨e1, z1⟩ => ⟨⟨x, e1⟩, G1, E.step s1, fun u G2 H2 s2 ⟨e2, z2⟩ => by
    refine ⟨x, y, e1, by rw [e2], h1, by have := z1.1; have := sizeLine_eq; unfold strMax at *; omega, fun l hl' => ?_⟩
    rw [hw]
    exact q _ _ _ ((s1.trans s2).trans (Stp.new s2.gh hl' _)) (lst_new s2.gh hl' (strs_p ok) hl)⟩⟩
/-! 'SAB'.index(name) -/
theorem pr_index {y : Str} {k : Nat} (ha : PR X B es a (Rp.str.at x)) (hb : PR X B es b (Rp.str.at y)) (hk : Txt.index0 x y = some k) (hc : X.calm = true := by rfl)
    (hbase : attributeBase a "index" X.env (eval a X.env) = eval a X.env := by rfl)
    (hfew : ((backTo pos (starEach (b :: []) X.env)).all (fun x => !x.1) && (backToKw pos (keywordEach [] X.env)).all (fun x => x.1.isSome) && decide ((b :: []).length + ([] : List Keyword).length + (if ([] : List Keyword).isEmpty then 0 else 1) < 30)) = true := by rfl)
    (hline : (apos.endLine == pos.line) = true := by rfl) (hs : starEach (b :: []) X.env = (false, eval b X.env) :: starEach [] X.env := by rfl) (hplain : (backTo pos (starEach [] X.env)).any (·.1) = false := by rfl) :
    PR X B es (.Call (.Attribute a "index" apos) [b] [] pos) (Rp.int.at (k : Int)) :=
  pr_of (pe_bmS PySem.F.plainAttrs_str PySem.F.slot_str_index PySem.F.type_str_index (mt_indexX (W := fun _ _ _ _ => False) hc takes0) ha (par_cons hb par_nil hs) hbase hfew hline hs hplain) fun σ G H Q E q => ⟨G, E, fun v G1 H1 s1 ⟨e1, z1⟩ => ⟨by rw [e1]; rfl, G1, E.step s1, fun us G2 H2 s2 r2 => by
    obtain ⟨u, rfl, e2, z2⟩ := al1 r2
    exact ⟨x, y, e1, by rw [e2], fun k' hk' => by rw [hk] at hk'; cases hk'; exact q _ _ _ (s1.trans s2) rfl, fun hn => by rw [hk] at hn; cases hn⟩⟩⟩
/-! x not in xs, data of any depth -/
theorem cmp_niQ {α : Type} [DecidableEq α] {A : Rp α} {x : α} {xs : List α} (E : Ec A) (I : Inj E) (hd : ∀ y : α, (E.enc y).depth ≤ 60) (hu : X.A.units + 65 < cLine) : Cmp X .NotIn (A.at x) (rL A xs) (!decide (x ∈ xs)) := ⟨_, op_notInD hu, Op2.val fun G H u v Q s hx ⟨p, vs, e, h, r, z⟩ => ⟨_, rfl, fun q => by
  have key : ∀ l : List α, PyData.depthAll (l.map E.enc) ≤ 60 := by
    intro l
    induction l with
    | nil => exact Nat.zero_le _
    | cons a l ih => have := hd a; rw [List.map_cons, PyData.depthAll]; omega
  refine ⟨E.enc x, xs.map E.enc, E.dp s hx, ?_, ?_, ?_, ?_⟩
  · rw [e]; exact .lst (SqL.of h) (dpall E s r)
  · show (_ && _) = true
    rw [E.lay hx, decide_eq_true (by have := hd x; omega)]; rfl
  · show (PyData.canLayAll0 (xs.map E.enc) && decide (PyData.depthAll (xs.map E.enc) + 1 ≤ 64)) = true
    rw [layall E r, decide_eq_true (by have := key xs; omega)]; rfl
  · have : ((xs.map E.enc).any fun z => PyData.eqv z (E.enc x)) = decide (x ∈ xs) := by
      rw [Bool.eq_iff_iff, List.any_eq_true, decide_eq_true_eq]
      constructor
      · rintro ⟨y, hy, e⟩
        obtain ⟨w, hw, rfl⟩ := List.mem_map.mp hy
        rw [← (I w x).mp e]; exact hw
      · intro hm
        exact ⟨E.enc x, List.mem_map.mpr ⟨x, hm, rfl⟩, (I x x).mpr rfl⟩
    rw [this]; exact q⟩⟩
/-! a pair from a list -/
theorem ss_pairL (i j : Nat) {x y : Str} {α : Type} {A : Rp α} {c d : α} {p1 p2 tp : Pos} {k : Nat} (h : PR X B es e (A.lst.at [c, d])) (r : PSl X B ((es.set i (.dat A c)).set j (.dat A d)) sts O) (hN : X.N.Nodup) (hc : X.calm = true := by rfl) (hi : X.N[i]? = some x := by rfl) (hj : X.N[j]? = some y := by rfl) (hx : L2.Loc X.env.scope x := by first | exact Or.inl rfl | exact Or.inr rfl) (hy : L2.Loc X.env.scope y := by first | exact Or.inl rfl | exact Or.inr rfl)
    (hf : X.fn x = true ∨ X.env.scope.names.lookup x = some .local := by first | exact .inl rfl | exact .inr rfl | assumption) (hf2 : X.fn y = true ∨ X.env.scope.names.lookup y = some .local := by first | exact .inl rfl | exact .inr rfl | assumption)
    (h1 : (assignEach [.Name x p1, .Name y p2] X.env).map (·.2) = assign (.Name x p1) X.env :: (assignEach [.Name y p2] X.env).map (·.2) := by rfl) (h2 : (assignEach [.Name y p2] X.env).map (·.2) = assign (.Name y p2) X.env :: (assignEach [] X.env).map (·.2) := by rfl)
    (h3 : (assignEach [.Name x p1, .Name y p2] X.env).length = 2 := by rfl) (h4 : (assignEach [.Name x p1, .Name y p2] X.env).findIdx? (·.1) = none := by rfl)
    (hs : swapsWithSole [.Tuple [.Name x p1, .Name y p2] k tp] e pos.line X.env = pure false := by rfl) (hw : swappedStores [.Tuple [.Name x p1, .Name y p2] k tp] e X.env = pure none := by rfl)
    (h5 : (assignEach [.Tuple [.Name x p1, .Name y p2] k tp] X.env).map (·.2) = [assign (.Tuple [.Name x p1, .Name y p2] k tp) X.env] := by rfl) : PSl X B es (.Assign [.Tuple [.Name x p1, .Name y p2] k tp] e pos :: sts) O :=
  ss_do (ps_asg h (pg_unl hc (pgs_cons (pg_name hN hi hx hf) (pgs_cons (pg_name hN hj hy hf2) pgs_nil h2) h1) h3 h4) hs hw h5) (fun D σ G H E q => ⟨G, E, fun v G' H' s ⟨p, vs, e, h, rv, z⟩ => by
    cases rv with
    | cons r1 rv => cases rv with
      | cons r2 rv =>
        cases rv
        rename_i u w
        exact ⟨p, [u, w], e, SqL.of (s.gh _ _ h), rfl, u, [w], rfl, w, [], rfl, rfl, q _ G' H' (((E.step s).setD r1).setD r2)⟩⟩) r
/-! the count's list -/
def cntAt (p : Addr) (n : Int) : Oc := ⟨fun _ _ q o => q = p ∧ o = .lst [.int n], fun _ h => h⟩
theorem Slots.same {K : PySem.W.Frag} {B : Bs} {G H : Hp} {σ : L2.St} {ps : List Addr} (h : Slots K B G H es σ ps) {i : Nat} {O O' : Oc} {p : Addr} {o : HO} (e : es[i]? = some (.own O)) (hσ : σ[i]? = some (some (.ref p))) (ho : H p = some o) (h2 : O'.rel K G p o) (hn : ps.Nodup) : Slots K B G H (es.set i (.own O')) σ ps := by
  have m := h.mut (O' := O') (o' := o) e hσ h2 hn
  have e : upd H p o = H := by
    funext b
    by_cases hb : b = p
    · subst hb; rw [upd_same]; exact ho.symm
    · rw [upd_ne hb]
  rwa [e] at m
theorem ss_cnt (j : Nat) {pp : Addr} (r : ∀ n, 0 ≤ n → PSl X B (es.set j (.own (cntAt pp n))) sts O) (hj : es[j]? = some (.own (spotAt pp)) := by rfl) : PSl X B es sts O := ⟨fun pins s σ H D I ⟨G, E, q⟩ => by
  obtain ⟨ps, sl, nd⟩ := E.sl
  obtain ⟨p2, o, e1, h1, ⟨h4, n, hn, eo⟩, h2, h3, hp⟩ := sl.getO hj
  subst h4; subst eo
  exact (r n hn).run pins s σ H D I ⟨G, ⟨E.st, ps, sl.same (O' := cntAt p2 n) hj e1 h1 ⟨rfl, rfl⟩ nd, nd⟩, q⟩⟩
theorem ss_spotted (j : Nat) {pp : Addr} {n : Int} (hn : 0 ≤ n) (r : PSl X B (es.set j (.own (spotAt pp))) sts O) (hj : es[j]? = some (.own (cntAt pp n)) := by rfl) : PSl X B es sts O := ⟨fun pins s σ H D I ⟨G, E, q⟩ => by
  obtain ⟨ps, sl, nd⟩ := E.sl
  obtain ⟨p2, o, e1, h1, ⟨h4, eo⟩, h2, h3, hp⟩ := sl.getO hj
  subst h4; subst eo
  exact r.run pins s σ H D I ⟨G, ⟨E.st, ps, sl.same (O' := spotAt p2) hj e1 h1 ⟨rfl, n, hn, rfl⟩ nd, nd⟩, q⟩⟩
theorem pr_cnt (j : Nat) {pp : Addr} {n : Int} (hN : X.N[j]? = some x := by rfl) (he : es[j]? = some (.own (cntAt pp n)) := by rfl)
    (hv : Vis X.env.scope x := by first | exact Or.inl rfl | exact Or.inr (Or.inl rfl) | exact Or.inr (Or.inr rfl)) (hd : (x == ("__debug__" : Str)) = false := by decide)
    (hcd : (x == ("__classdict__" : Str)) = false := by decide) : PR X B es (.Name x pos) (rL Rp.int [n]) :=
  pr_of (pe_var hN hv hd hcd) fun σ G H Q E q => by
    obtain ⟨p, o, e, h1, ⟨h4, eo⟩, h2, h3⟩ := E.getO he
    subst h4; subst eo
    exact ⟨_, e, q _ G H (Stp.refl E.same) ⟨p, [.int n], rfl, h1, .cons rfl .nil, by show 1 ≤ sizeLine; decide⟩⟩
/-- spot[0] = e -/
theorem ss_cntset (j : Nat) {pp : Addr} {n m : Int} {jj} {ip : Pos} (h : PR X B es e (Rp.int.at m)) (r : PSl X B (es.set j (.own (cntAt pp m))) sts O) (hN : X.N[j]? = some x := by rfl) (hj : es[j]? = some (.own (cntAt pp n)) := by rfl)
    (hv : Vis X.env.scope x := by first | exact Or.inl rfl | exact Or.inr (Or.inl rfl) | exact Or.inr (Or.inr rfl)) (hd : (x == ("__debug__" : Str)) = false := by decide) (hcd : (x == ("__classdict__" : Str)) = false := by decide)
    (ha : ∀ v, assign (.Subscript (.Name x np) (.Constant (.int 0) jj ip) p') X.env v = (do
      let ov ← holding [v] (eval (.Name x np) X.env)
      let iv ← holding [v, ov] (eval (.Constant (.int 0) jj ip) X.env)
      standAt p'
      holding [v, ov, iv] (setItem ov iv v)
      release [v, ov, iv] []) := by intro _; rfl)
    (hs : swapsWithSole [.Subscript (.Name x np) (.Constant (.int 0) jj ip) p'] e pos.line X.env = pure false := by rfl) (hw : swappedStores [.Subscript (.Name x np) (.Constant (.int 0) jj ip) p'] e X.env = pure none := by rfl)
    (h5 : (assignEach [.Subscript (.Name x np) (.Constant (.int 0) jj ip) p'] X.env).map (·.2) = [assign (.Subscript (.Name x np) (.Constant (.int 0) jj ip) p') X.env] := by rfl) :
    PSl X B es (.Assign [.Subscript (.Name x np) (.Constant (.int 0) jj ip) p'] e pos :: sts) O :=
  ss_do (ps_asg h (pg_sub (pe_var hN hv hd hcd) pe_int set_list ha) hs hw h5) (fun D σ G H E q => ⟨G, E, fun v G' H' s rv => by
    have E' := E.step s
    obtain ⟨p, o, e1, h1, ⟨h4, eo⟩, h2, h3⟩ := E'.getO hj
    subst h4; subst eo
    have rv : v = .int m := rv
    subst rv
    exact ⟨_, e1, p, [.int n], 0, 0, rfl, rfl, h1, rfl, q _ G' _ (E'.mut hj e1 (O' := cntAt p m) ⟨rfl, rfl⟩)⟩⟩) r
theorem ss_retC {β : Type} {A : Rp β} {φ : β → Prop} (j : Nat) {pp : Addr} {n : Int} (hn : 0 ≤ n) {d : β} (h : PR X B es e (A.at d)) (hd : φ d) (k : ∀ G H v, movR X.K pp A φ G H v → O.rn G H v) (hj : es[j]? = some (.own (cntAt pp n)) := by rfl) : PSl X B es (.Return (some e) pos :: sts) O :=
  ss_seq (M := fun _ => False) (ps_imp (ps_ret h) fun D σ H ⟨G, E, q⟩ => ⟨G, E, fun v G' H' s r => by
    obtain ⟨p2, o, e2, h4, ⟨h5, eo⟩, h6, h7⟩ := (E.step s).getO hj
    subst h5; subst eo
    exact q.rn _ G' H' (E.st.trans s) (k G' H' _ ⟨d, n, hd, h6, hn, h4, r⟩)⟩) fun _ h => h.elim
end
/-! comprehensions over a list that a slot owns -/
structure AWo {α : Type} (K : PySem.W.Frag) (J : It) (G1 H1 : Hp) (A : Rp α) (ys : List α) : Prop where
  go : ∀ i G H, Same G1 G → Same G H → Same H1 H → i < ys.length → J.go i H
  stop : ∀ G H, Same G1 G → Same G H → Same H1 H → J.stop ys.length H
  yld : ∀ i G H x H', Same G1 G → Same G H → Same H1 H → i < ys.length → J.yld i H x H' → ∃ G' y, ys[i]? = some y ∧ Stp G H G' H' ∧ A.rel K G' x y
def tPIo {α : Type} (K : PySem.W.Frag) (B : Bs) (es : List Sl) (A : Rp α) (ys : List α) : TI := fun σ H R => ∃ G, EnvA K B es σ G H ∧ ∀ J G' H', Stp G H G' H' → AWo K J G' H' A ys → R J H'
abbrev PItO {α : Type} (X : Cx) (B : Bs) (es : List Sl) (tg iter : Expr) (A : Rp α) (ys : List α) : Prop := PI X tg iter (tPIo X.K B es A ys)
theorem it_own {X : Cx} {B : Bs} {es : List Sl} {tg e : Expr} {α : Type} {A : Rp α} {xs : List α} (h : PR X B es e (rL A xs)) : PItO X B es tg e A xs :=
  pi_imp (pi_list h) fun σ H R ⟨G, E, q⟩ => ⟨G, E, fun v G1 H1 s1 ⟨p, vs, e, h1, r, z⟩ => by
    have w := walk_list (K := X.K) (a := p) (xs := vs)
    refine ⟨p, e, ⟨vs, SqL.of h1⟩, q _ G1 H1 s1 ⟨fun i G H a b c hi => w.goes i H (by rw [r.length]; exact hi) (SqL.of (c _ _ h1)), fun G H a b c => r.length ▸ w.stops H (SqL.of (c _ _ h1)), fun i G2 H2 x H3 a b c hi y => ?_⟩⟩
    obtain ⟨e3, y⟩ := w.yields i H2 x H3 (by rw [r.length]; exact hi) (SqL.of (c _ _ h1)) y
    obtain ⟨d, hd, rd⟩ := pgetL r y
    exact ⟨G2, d, hd, by rw [e3]; exact Stp.refl b, A.mono a rd⟩⟩
section
variable {X : Cx} {B : Bs} {es : List Sl} {tg iter elt : Expr} {ifs : List Expr} {scope : Scope} {pos p' : Pos} {α β : Type} {A : Rp α} {C : Rp β} {ys : List α} {own : List (Str × Nat)} {sts : List Stmt} {O : Out}
/-- the reading of a comprehension over a list that a slot owns -/
theorem lc_readO {wi : TI} {g : TG} {tt : TT} {te : TE} {u : List Sl → α → List Sl} {vs : List Nat} {c : α → Bool} {f : α → β} {zs : List β} (hz : (ys.filter c).map f = zs) (hlen : ys.length ≤ sizeLine)
    (hwi : ∀ σ H R, tPIo X.K B es A ys σ H R → wi σ H R) (hg : ∀ v σ H Q, tTgt X.K A u vs v σ H Q → g v σ H Q)
    (ht : ∀ y σ H Q, y ∈ ys → tGT X.K B (u (wipeE es vs) y) (c y) σ H Q → tt σ H Q) (he : ∀ y σ H Q, y ∈ ys → c y = true → tG X.K B (u (wipeE es vs) y) (C.at (f y)) σ H Q → te σ H Q) :
    ∀ σ H Q, tG X.K B es (C.lst.at zs) σ H Q → tLc wi g tt te vs σ H Q := by
  subst hz
  rintro σ H Q ⟨G, E, q⟩
  refine hwi σ H _ ⟨G, E, fun J G1 H1 s1 aw D hD => ?_⟩
  have E1 := E.step s1
  refine ⟨fun i m H => m = ys.length - i ∧ i ≤ ys.length ∧ ∃ Gi acc, Stp G1 H1 Gi H ∧ Gi D = none ∧ H D = some (.lst acc) ∧ Paired (C.rel X.K Gi) acc (((ys.take i).filter c).map f),
    ⟨ys.length, by simp, Nat.zero_le _, G1, [], Stp.fresh s1.gh hD _, s1.gh.free hD, upd_same, .nil⟩, ?_⟩
  rintro i m Hi ⟨rfl, hi, Gi, acc, si, gD, hDi, ra⟩
  have lacc : acc.length ≤ i := by
    rw [ra.length, List.length_map]
    refine Nat.le_trans (List.length_filter_le _ _) ?_
    rw [List.length_take]; omega
  by_cases hlt : i < ys.length
  · refine .inr ⟨aw.go i Gi Hi si.gg si.gh si.hh hlt, fun H' => i + 1 ≤ ys.length ∧ ∃ Gi acc, Stp G1 H1 Gi H' ∧ Gi D = none ∧ H' D = some (.lst acc) ∧ Paired (C.rel X.K Gi) acc (((ys.take (i + 1)).filter c).map f), fun H' p => ⟨ys.length - (i + 1), by omega, rfl, p.1, p.2⟩, fun x H' yl => ?_⟩
    obtain ⟨G2, y, hy, s2, ry⟩ := aw.yld i Gi Hi x H' si.gg si.gh si.hh hlt yl
    have hm : y ∈ ys := List.mem_of_getElem? hy
    have hx := take_filter (c := c) hy
    have E2 := (E1.step (si.trans s2)).wipe vs
    have hD2 := s2.hh _ _ hDi
    have keep : ∀ {G3 H3 : Hp}, Stp Gi Hi G3 H3 → G3 D = none := fun {G3 H3} s3 => by
      cases e : G3 D with
      | none => rfl
      | some o =>
        rcases s3.nw D o e with z | z
        · rw [gD] at z; cases z
        · rw [hDi] at z; cases z
    refine hg _ _ _ _ ⟨B, wipeE es vs, y, G2, E2, ry, fun σ2 hw E3 => ⟨hw.trans (wipe_wipe σ vs), ht y _ _ _ hm ⟨G2, E3, fun G3 H3 s3 => ?_⟩⟩⟩
    cases hc : c y with
    | false =>
      refine iteF ?_
      rw [hc] at hx
      refine ⟨hlt, G3, acc, si.trans (s2.trans s3), keep (s2.trans s3), s3.hh _ _ hD2, ?_⟩
      have hx : (ys.take (i + 1)).filter c = (ys.take i).filter c := by simpa using hx
      rw [hx]
      exact pmono (fun _ _ => C.mono (s2.gg.trans s3.gg)) ra
    | true =>
      refine iteT ?_
      refine he y _ _ _ hm hc ⟨G3, E3.step s3, fun v G4 H4 s4 r4 => ⟨acc, s4.hh _ _ (s3.hh _ _ hD2), Nat.lt_of_le_of_lt lacc (Nat.lt_of_lt_of_le hlt hlen), hlt, G4, acc ++ [v], ?_, keep ((s2.trans s3).trans s4), upd_same, ?_⟩⟩
      · have s := si.trans ((s2.trans s3).trans s4)
        exact ⟨s.gg, same_updL _ s.gh (keep ((s2.trans s3).trans s4)), same_updL _ s.hh hD, s.nw⟩
      · rw [hc] at hx
        have hx : (ys.take (i + 1)).filter c = (ys.take i).filter c ++ [y] := by simpa using hx
        rw [hx, List.map_append]
        exact pappend (pmono (fun _ _ => C.mono (s2.gg.trans (s3.gg.trans s4.gg))) ra) (.cons r4 .nil)
  · have ei : i = ys.length := by omega
    subst ei
    refine .inl ⟨aw.stop Gi Hi si.gg si.gh si.hh, ?_⟩
    rw [List.take_length] at ra
    have zl : ((ys.filter c).map f).length ≤ sizeLine := by rw [← ra.length]; exact Nat.le_trans lacc hlen
    have s := s1.trans si
    refine q (.ref D) (upd Gi D (.lst acc)) Hi ⟨s.gg.trans (same_upd _ gD), fun b o e => ?_, s.hh, fun b o e => ?_⟩ ⟨D, acc, rfl, upd_same, pmono (fun _ _ => C.mono (same_upd _ gD)) ra, zl⟩
    · by_cases hb : b = D
      · subst hb; rw [upd_same] at e; cases e; exact hDi
      · rw [upd_ne hb] at e; exact si.gh b o e
    · by_cases hb : b = D
      · subst hb; exact .inr (s1.hh.free hD)
      · rw [upd_ne hb] at e; exact s.nw b o e
theorem pr_lcO (own : List (Str × Nat)) {u : List Sl → α → List Sl} {c : α → Bool} {f : α → β} {zs : List β} (hi : PItO X B es tg iter A ys)
    (hg : ∀ (s : Shared) (H : Hp) (L : Addr) (cl : List (Str × Addr)) (fp : List Addr), PG (X.blk s H scope (compEnvC scope cl L X.env) fp) tg (tTgt X.K A u (own.map (·.2))))
    (ht : ∀ y, y ∈ ys → ∀ (s : Shared) (H : Hp) (L : Addr) (cl : List (Str × Addr)) (fp : List Addr), PTs (X.blk s H scope (compEnvC scope cl L X.env) fp) ifs (tGT X.K B (u (wipeE es (own.map (·.2))) y) (c y)))
    (he : ∀ y, y ∈ ys → c y = true → ∀ (s : Shared) (H : Hp) (L : Addr) (cl : List (Str × Addr)) (fp : List Addr), PR (X.blk s H scope (compEnvC scope cl L X.env) fp) B (u (wipeE es (own.map (·.2))) y) elt (C.at (f y)))
    (hlen : ys.length ≤ sizeLine) (hN : X.N.Nodup) (hz : (ys.filter c).map f = zs := by rfl) (hc : X.calm = true := by rfl) (ok : blkC X.N X.env.scope scope own = true := by kernel_rfl) (hs : ∀ x, foldedSetIterable iter X.env x = pure x := by intro _; rfl) :
    PR X B es (.ListComp elt [⟨tg, iter, ifs, 0⟩] scope pos) (C.lst.at zs) :=
  pe_imp (pe_lc (g := tTgt X.K A u (own.map (·.2))) (tt := fun σ H Q => ∃ y, y ∈ ys ∧ tGT X.K B (u (wipeE es (own.map (·.2))) y) (c y) σ H Q) (te := fun σ H Q => ∃ y, y ∈ ys ∧ c y = true ∧ tG X.K B (u (wipeE es (own.map (·.2))) y) (C.at (f y)) σ H Q)
      hc hN hi (blkOk_by ok) hg (fun s H L cl fp => ⟨fun pins s' σ H' Q I ⟨y, hy, q⟩ => (ht y hy s H L cl fp).run pins s' σ H' Q I q⟩) (fun s H L cl fp => ⟨fun pins s' σ H' Q I ⟨y, hy, hcy, q⟩ => (he y hy hcy s H L cl fp).run pins s' σ H' Q I q⟩) hs)
    (lc_readO hz hlen (fun _ _ _ q => q) (fun _ _ _ _ q => q) (fun y _ _ _ hy q => ⟨y, hy, q⟩) (fun y _ _ _ hy hcy q => ⟨y, hy, hcy, q⟩))
theorem ss_setLcO (i : Nat) {x : Str} {α β : Type} {A : Rp α} {C : Rp β} {ys : List α} (own : List (Str × Nat)) {u : List Sl → α → List Sl} {cc : α → Bool} {f : α → β} {zs : List β} {tg iter elt : Expr} {ifs : List Expr} {scope : Scope} {lpos : Pos} (hi : PItO X B es tg iter A ys)
    (hg : ∀ (s : Shared) (H : Hp) (L : Addr) (cl : List (Str × Addr)) (fp : List Addr), PG (X.blk s H scope (compEnvC scope cl L X.env) fp) tg (tTgt X.K A u (own.map (·.2))))
    (ht : ∀ y, y ∈ ys → ∀ (s : Shared) (H : Hp) (L : Addr) (cl : List (Str × Addr)) (fp : List Addr), PTs (X.blk s H scope (compEnvC scope cl L X.env) fp) ifs (tGT X.K B (u (wipeE es (own.map (·.2))) y) (cc y)))
    (he : ∀ y, y ∈ ys → cc y = true → ∀ (s : Shared) (H : Hp) (L : Addr) (cl : List (Str × Addr)) (fp : List Addr), PR (X.blk s H scope (compEnvC scope cl L X.env) fp) B (u (wipeE es (own.map (·.2))) y) elt (C.at (f y)))
    (hlen : ys.length ≤ sizeLine) (hN : X.N.Nodup) (r : PSl X B (es.set i (.dat C.lst zs)) sts O) (hz : (ys.filter cc).map f = zs := by rfl) (hc : X.calm = true := by rfl) (ok : blkC X.N X.env.scope scope own = true := by kernel_rfl)
    (hy : X.N[i]? = some x := by rfl) (hyl : X.env.scope.names.lookup x = some .local := by rfl) (hsw : swapsWith (.ListComp elt [⟨tg, iter, ifs, 0⟩] scope lpos) (some (.Name x p')) pos.line X.env = pure true := by exact sw_true rfl rfl rfl (by kernel_rfl)) (hs : ∀ x, foldedSetIterable iter X.env x = pure x := by intro _; rfl) :
    PSl X B es (.Assign [.Name x p'] (.ListComp elt [⟨tg, iter, ifs, 0⟩] scope lpos) pos :: sts) O :=
  ss_do (ps_setLc (g := tTgt X.K A u (own.map (·.2))) (tt := fun σ H Q => ∃ y, y ∈ ys ∧ tGT X.K B (u (wipeE es (own.map (·.2))) y) (cc y) σ H Q) (te := fun σ H Q => ∃ y, y ∈ ys ∧ cc y = true ∧ tG X.K B (u (wipeE es (own.map (·.2))) y) (C.at (f y)) σ H Q)
      hc hN hy hyl hsw hi (blkOk_by ok) hg (fun s H L cl fp => ⟨fun pins s' σ H' Q I ⟨y, hy, q⟩ => (ht y hy s H L cl fp).run pins s' σ H' Q I q⟩) (fun s H L cl fp => ⟨fun pins s' σ H' Q I ⟨y, hy, hcy, q⟩ => (he y hy hcy s H L cl fp).run pins s' σ H' Q I q⟩) hs)
    (fun D σ G H E q => lc_readO (C := C) hz hlen (fun _ _ _ q => q) (fun _ _ _ _ q => q) (fun y _ _ _ hy q => ⟨y, hy, q⟩) (fun y _ _ _ hy hcy q => ⟨y, hy, hcy, q⟩) σ H _ ⟨G, E, fun v G' H' s rv => q _ G' H' ((E.step s).setD rv)⟩) r
end
end Rw

/-! RwLb: the law's grammar -/
namespace Rw
open PySem PyProof.Rows L2
/-! mirrors -/
def sgn (s : Str) (i : Int) : Str := ⟨#[gi s.cps.toList i]⟩
def partsBy : Nat → Int → List Str
  | 0, _ => []
  | n + 1, left => sgn "abcSAB" (left % 6) :: partsBy n (left / 6)
def ruleBy (cell : Int) : Rule := (sgn "SAB" (cell % 3), partsBy (cell / 3 % 4).toNat (cell / 12))
def known16 : List Str := ["S=aSbS S=", "S=SaA S=A A=b A=cSc", "S=aSa S=bSb S=a S=b S=", "S=aS S=aSbS S=c", "S=AS S=A A=a A=b", "S=AB A= A=a B=A B=b", "S=A S=a A=S A=b", "S=aSb S=ab", "S=SS S=a", "S=aAa S=bAb S=aBb S=bBa A=c B=c", "S=a S=A A=aA", "S=ab A=bS", "S=ASb S=a A= A=c", "S=aSS S=b", "S=A A=B B=S B=c", "S=SAS S=a A=b A=c"]
def knownRule (w : Str) : Rule := (gi (Txt.split w "=") 0, chars (gi (Txt.split w "=") 1))
def knownG (s : Str) : Gram := (Txt.split s " ").map knownRule
/-- the rules that the law draws -/
def okDraw (r : Rule) : Bool := isSab r.1 && decide (r.2.length ≤ 6) && r.2.all fun p => isSab p || isAbc p
theorem known_ok : ∀ s ∈ known16, SOk s ∧ (∀ w ∈ Txt.split s " ", SOk w ∧ Txt.split w "=" = [gi (Txt.split w "=") 0, gi (Txt.split w "=") 1] ∧ SOk (gi (Txt.split w "=") 0) ∧ SOk (gi (Txt.split w "=") 1) ∧ (chars (gi (Txt.split w "=") 1)).length ≤ 6) ∧ (Txt.split s " ").length ≤ 10 ∧ 1 ≤ (Txt.split s " ").length ∧ (knownG s).all okDraw = true := by decide +kernel
def dedup (g : Gram) : Gram := g.foldl (fun acc r => if r ∈ acc then acc else acc ++ [r]) []
def closer (name : Str) : Str := if name = "S" then "c" else if name = "A" then "a" else "b"
def closeStep (acc : Gram) (name : Str) : Gram := if decide (0 < (acc.filter fun r => decide (name ∈ r.2)).length) && decide ((acc.filter fun r => decide (r.1 = name)).length = 0) then acc ++ [(name, [closer name])] else acc
def closed (g : Gram) : Gram := (["S", "A", "B"] : List Str).foldl closeStep (dedup g)
theorem partsBy_len : ∀ (n : Nat) (left : Int), (partsBy n left).length = n
  | 0, _ => rfl
  | n + 1, left => by rw [partsBy, List.length_cons, partsBy_len n]
theorem sgn_mem {s : Str} {i : Int} (h0 : 0 ≤ i) (h1 : i < s.cps.toList.length) : ⟨#[gi s.cps.toList i]⟩ ∈ chars s := List.mem_map.mpr ⟨_, gi_mem h0 h1, rfl⟩
theorem six_ok : ∀ p ∈ chars "abcSAB", (isSab p || isAbc p) = true := by decide +kernel
theorem three_ok : ∀ p ∈ chars "SAB", isSab p = true := by decide +kernel
theorem partsBy_ok : ∀ (n : Nat) (left : Int), (partsBy n left).all (fun p => isSab p || isAbc p) = true
  | 0, _ => rfl
  | n + 1, left => by
    rw [partsBy, List.all_cons, partsBy_ok n, Bool.and_true]
    exact six_ok _ (sgn_mem (Int.emod_nonneg _ (by decide)) (by have := Int.emod_lt_of_pos left (show (0 : Int) < 6 by decide); show left % 6 < 6; omega))
theorem ruleBy_ok (cell : Int) : okDraw (ruleBy cell) = true := by
  unfold okDraw ruleBy
  have h1 := three_ok _ (sgn_mem (s := "SAB") (i := cell % 3) (Int.emod_nonneg _ (by decide)) (by have := Int.emod_lt_of_pos cell (show (0 : Int) < 3 by decide); show cell % 3 < 3; omega))
  have h2 := partsBy_ok (cell / 3 % 4).toNat (cell / 12)
  have h3 : (cell / 3 % 4).toNat ≤ 6 := by have := Int.emod_lt_of_pos (cell / 3) (show (0 : Int) < 4 by decide); omega
  show (isSab (sgn "SAB" (cell % 3)) && decide ((partsBy (cell / 3 % 4).toNat (cell / 12)).length ≤ 6) && _) = true
  rw [show isSab (sgn "SAB" (cell % 3)) = true from h1, partsBy_len, h2, decide_eq_true h3]; rfl
section
variable (P : Program) (w : World) (K : PySem.W.Frag) (mg : Str → Option Value) (base : Heap)
abbrev D_cell_at := Df P w K mg base CX0 "_law_cell_at" ["script", "k"] 1 (spI K (ι := List Int × Int) (fun i => [.dat Rp.int.scr i.1, .dat Rp.int i.2]) (fun i => 0 ≤ i.2) Rp.int (fun i => gi i.1 i.2))
abbrev D_next := Df P w K mg base CX0 "_law_next" ["script", "spot"] 2 (spM K (ι := List Int) (fun p ns => [.dat Rp.int.scr ns, .dat (Rp.ref p) ()]) (fun _ => True) Rp.int (fun _ _ => True))
abbrev D_rule_by := Df P w K mg base CX0 "_law_rule_by" ["cell"] 1 (spI K (ι := Int) (fun c => [.dat Rp.int c]) (fun _ => True) rRule ruleBy)
abbrev D_known := Df P w K mg base CX0 "_law_known" ["number"] 1 (spN K (ι := Int) (fun c => [.dat Rp.int c]) (fun _ => True) rRule (fun c => knownG (gi known16 (c % 16))))
abbrev D_closed := Df P w K mg base CX0 "_law_closed" ["rules"] 1 (spI K (ι := Gram) (fun g => [.dat rGram g]) (fun g => g.length ≤ 40 ∧ ∀ r ∈ g, r.2.length ≤ 6) rGram closed)
abbrev D_grammar := Df P w K mg base CX0 "_law_grammar" ["script", "spot"] 3 (spM K (ι := List Int) (fun p ns => [.dat Rp.int.scr ns, .dat (Rp.ref p) ()]) (fun _ => True) rGram (fun _ g => GW g))
end
section
variable {P : Program} {w : World} {K : PySem.W.Frag} {mg : Str → Option Value} {base : Heap}
theorem ok_cell_at (T : Top K mg "_law_cell_at" st__law_cell_at ["script", "k"]) (M : Blt mg) : D_cell_at P w K mg base := T.df fun f fd F => by
  refine fn_pure F sc__law_cell_at (fun _ => rfl) no2 fun ⟨ns, k⟩ h0 cdv Aa outer sh H E B hr => ?_
  have h0 : 0 ≤ k := h0
  show PSl _ _ [.dat Rp.int.scr ns, .dat Rp.int k] _ _
  refine ss_if2 (pb_cmp (pr_var 1) (pr_callB (par_cons (pr_q (pr_var 0)) par_nil) M.len cb_lenQ) cmp_lt) (fun c => ?_) (fun c => ?_)
  · have c := of_decide_eq_true c
    exact ss_ret (pr_ix (pr_q (pr_var 0)) (pr_var 1) (ix_Q (atI_gi h0 c))) fun _ _ h => h
  · have c := of_decide_eq_false c
    refine ss_nil (ss_ret pr_int fun G v h => ?_)
    have e : gi ns k = 0 := by
      unfold gi
      rw [List.getD, List.getElem?_eq_none (by omega)]; rfl
    show Rp.int.rel K G v (gi ns k)
    rw [e]; exact h
theorem ok_next (T : Top K mg "_law_next" st__law_next ["script", "spot"]) (D1 : D_cell_at P w K mg base) : D_next P w K mg base := T.df fun f fd F => by
  refine fn_mut F sc__law_next (fun _ _ => rfl) (fun _ => no2) (fun _ _ => rfl) fun ns _ pp cdv Aa outer sh H E B hr => ?_
  show PSl _ _ [.dat Rp.int.scr ns, .own (spotAt pp)] _ _
  refine ss_cnt 1 fun n hn => ?_
  refine ss_cntset 1 (pr_bin (pr_ix (pr_cnt 1) pr_int (ix_L (atI_nat (j := 0) rfl))) pr_int bin_add) ?_
  refine ss_retC 1 (n := n + 1) (by omega) (pr_call D1 hr (ns, n + 1 - 1) (par_cons (pr_var 0) (par_cons (pr_bin (pr_ix (pr_cnt 1) pr_int (ix_L (atI_nat (j := 0) rfl))) pr_int bin_sub) par_nil)) (by show 0 ≤ n + 1 - 1; omega)) trivial fun _ _ _ h => h
theorem ok_rule_by (T : Top K mg "_law_rule_by" st__law_rule_by ["cell"]) (M : Blt mg) : D_rule_by P w K mg base := T.df fun f fd F => by
  refine fn_pure F sc__law_rule_by (fun _ => rfl) no1 fun cell _ cdv Aa outer sh H E B hr => ?_
  show PSl _ _ [.dat Rp.int cell, .un, .un, .un] _ _
  have hn0 := Int.emod_nonneg (cell / 3) (show (4 : Int) ≠ 0 by decide)
  have hn4 := Int.emod_lt_of_pos (cell / 3) (show (0 : Int) < 4 by decide)
  refine ss_own0 1 Rp.str ?_ sc__law_rule_by.nd
  refine ss_set 2 (pr_bin (pr_var 0) pr_int (bin_div (by decide))) ?_ sc__law_rule_by.nd
  refine ss_for (fun i es => ∃ (acc : List Str) (left : Int) (a : Sl), acc.length = i ∧ acc ++ partsBy ((cell / 3 % 4).toNat - i) left = partsBy (cell / 3 % 4).toNat (cell / 12) ∧ es = [.dat Rp.int cell, .own (.lst Rp.str acc), .dat Rp.int left, a])
    (it_range (pr_bin (pr_bin (pr_var 0) pr_int (bin_div (by decide))) pr_int (bin_mod (by decide))) (by omega) (by omega) M.range) (tg_name 3 sc__law_rule_by.nd) ⟨[], cell / 12, .un, rfl, rfl, rfl⟩ ?_ ?_ PassesOwn.never rfl
  · rintro B' i k _ hi ⟨acc, left, a, hl, he, rfl⟩
    have hil := (List.getElem?_eq_some_iff.mp hi).1
    have hil : i < (cell / 3 % 4).toNat := by simpa [upTo] using hil
    show PSl _ _ [.dat Rp.int cell, .own (.lst Rp.str acc), .dat Rp.int left, .dat Rp.int k] _ _
    obtain ⟨m, hm⟩ : ∃ m, (cell / 3 % 4).toNat - i = m + 1 := ⟨(cell / 3 % 4).toNat - i - 1, by omega⟩
    rw [hm, partsBy] at he
    have hx : atI (("abcSAB" : Str).cps.toList) (left % 6) = some (gi ("abcSAB" : Str).cps.toList (left % 6)) := atI_gi (Int.emod_nonneg _ (by decide)) (by have := Int.emod_lt_of_pos left (show (0 : Int) < 6 by decide); show left % 6 < 6; omega)
    refine ss_append 1 (d := sgn "abcSAB" (left % 6)) (pr_ix pr_str (pr_bin (pr_var 2) pr_int (bin_mod (by decide))) (ix_S hx)) ?_ ?_
    rotate_left
    · exact smallL (by omega)
    refine ss_set 2 (pr_bin (pr_var 2) pr_int (bin_div (by decide))) (ss_nil ⟨acc ++ [sgn "abcSAB" (left % 6)], left / 6, .dat Rp.int k, by simp [hl], ?_, rfl⟩) sc__law_rule_by.nd
    rw [show (cell / 3 % 4).toNat - (i + 1) = m by omega, List.append_assoc]
    exact he
  · rintro _ ⟨acc, left, a, hl, he, rfl⟩
    have hul : (upTo (cell / 3 % 4)).length = (cell / 3 % 4).toNat := by simp [upTo]
    rw [hul, Nat.sub_self] at he
    have he : acc = partsBy (cell / 3 % 4).toNat (cell / 12) := by rw [← he, partsBy, List.append_nil]
    have hx : atI (("SAB" : Str).cps.toList) (cell % 3) = some (gi ("SAB" : Str).cps.toList (cell % 3)) := atI_gi (Int.emod_nonneg _ (by decide)) (by have := Int.emod_lt_of_pos cell (show (0 : Int) < 3 by decide); show cell % 3 < 3; omega)
    refine ss_frzL 1 ?_
    refine ss_ret (pr_pair (pr_ix pr_str (pr_bin (pr_var 0) pr_int (bin_mod (by decide))) (ix_S hx)) (pr_callT (par_cons (pr_l (pr_var 1)) par_nil) M.tuple cb_tuple)) fun G v h => ?_
    rw [he] at h
    exact h
theorem ok_known (T : Top K mg "_law_known" st__law_known ["number"]) (M : Blt mg) : D_known P w K mg base := T.df fun f fd F => by
  refine fn_new F sc__law_known (fun _ => rfl) no1 fun num _ cdv Aa outer sh H E B hr => ?_
  show PSl _ _ [.dat Rp.int num, .un, .un, .un, .un, .un] _ _
  refine ss_set 1 (pr_lst Rp.str ["S=aSbS S=", "S=SaA S=A A=b A=cSc", "S=aSa S=bSb S=a S=b S=", "S=aS S=aSbS S=c"] (par_cons pr_str (par_cons pr_str (par_cons pr_str (par_cons pr_str par_nil))))) ?_ sc__law_known.nd
  refine ss_set 1 (pr_bin (pr_l (pr_var 1)) (pr_l (pr_lst Rp.str ["S=AS S=A A=a A=b", "S=AB A= A=a B=A B=b", "S=A S=a A=S A=b", "S=aSb S=ab"] (par_cons pr_str (par_cons pr_str (par_cons pr_str (par_cons pr_str par_nil)))))) (bin_cat ?_)) ?_ sc__law_known.nd
  · exact small (by decide)
  refine ss_set 1 (pr_bin (pr_l (pr_var 1)) (pr_l (pr_lst Rp.str ["S=SS S=a", "S=aAa S=bAb S=aBb S=bBa A=c B=c", "S=a S=A A=aA", "S=ab A=bS"] (par_cons pr_str (par_cons pr_str (par_cons pr_str (par_cons pr_str par_nil)))))) (bin_cat ?_)) ?_ sc__law_known.nd
  · exact small (by decide)
  refine ss_set 1 (d := known16) (pr_bin (pr_l (pr_var 1)) (pr_l (pr_lst Rp.str ["S=ASb S=a A= A=c", "S=aSS S=b", "S=A A=B B=S B=c", "S=SAS S=a A=b A=c"] (par_cons pr_str (par_cons pr_str (par_cons pr_str (par_cons pr_str par_nil)))))) (bin_cat ?_)) ?_ sc__law_known.nd
  · exact small (by decide)
  refine ss_own0 2 rRule ?_ sc__law_known.nd
  show PSl _ _ [.dat Rp.int num, .dat Rp.str.lst known16, .own (.lst rRule []), .un, .un, .un] _ _
  have hx0 := Int.emod_nonneg num (show (16 : Int) ≠ 0 by decide)
  have hx1 := Int.emod_lt_of_pos num (show (0 : Int) < 16 by decide)
  have hlen : (known16.length : Int) = 16 := by decide
  obtain ⟨k1, k2, k3, k4, _⟩ := known_ok _ (gi_mem (l := known16) hx0 (by omega))
  refine ss_for (fun i es => ∃ (a3 a4 a5 : Sl), es = [.dat Rp.int num, .dat Rp.str.lst known16, .own (.lst rRule (((Txt.split (gi known16 (num % 16)) " ").take i).map knownRule)), a3, a4, a5])
    (it_list (pr_split (pr_ix (pr_l (pr_var 1)) (pr_bin (pr_var 0) pr_int (bin_mod (by decide))) (ix_L (atI_gi hx0 (by omega)))) pr_str (by decide +kernel) rfl (fun z hz => (k2 z hz).1) (small (by omega)))) (tg_name 3 sc__law_known.nd) ⟨.un, .un, .un, rfl⟩ ?_ ?_ PassesOwn.never rfl
  · rintro B' i wd _ hi ⟨a3, a4, a5, rfl⟩
    show PSl _ _ [.dat Rp.int num, .dat Rp.str.lst known16, .own (.lst rRule (((Txt.split (gi known16 (num % 16)) " ").take i).map knownRule)), .dat Rp.str wd, a4, a5] _ _
    obtain ⟨j1, j2, j3, j4, j5⟩ := k2 wd (List.mem_of_getElem? hi)
    refine ss_pairL 4 5 (pr_split (pr_var 3) pr_str (by decide +kernel) j2 (fun z hz => by
      rcases List.mem_cons.mp hz with e | e
      · rw [e]; exact j3
      · simp at e; rw [e]; exact j4) (by show 2 ≤ sizeLine; decide)) ?_ sc__law_known.nd
    refine ss_append 2 (d := knownRule wd) (pr_pair (pr_var 4) (pr_callT (par_cons (pr_l (pr_callT (par_cons (pr_var 5) par_nil) M.list (cb_listS rfl))) par_nil) M.tuple cb_tuple)) ?_ ?_
    rotate_left
    · rw [List.length_map, List.length_take]; exact smallL (by omega)
    refine ss_nil ⟨.dat Rp.str wd, .dat Rp.str (gi (Txt.split wd "=") 0), .dat Rp.str (gi (Txt.split wd "=") 1), ?_⟩
    rw [take_succ hi, List.map_append]; rfl
  · rintro _ ⟨a3, a4, a5, rfl⟩
    rw [List.take_length]
    exact ss_retO 2 fun _ _ _ h => h
/-! closed: its laws -/
theorem dedup_spec : ∀ (g acc : Gram), acc.Nodup → (g.foldl (fun acc r => if r ∈ acc then acc else acc ++ [r]) acc).Nodup ∧ (∀ r, r ∈ g.foldl (fun acc r => if r ∈ acc then acc else acc ++ [r]) acc ↔ r ∈ acc ∨ r ∈ g) ∧ (g.foldl (fun acc r => if r ∈ acc then acc else acc ++ [r]) acc).length ≤ acc.length + g.length
  | [], acc, h => ⟨h, fun r => by simp, by simp⟩
  | a :: g, acc, h => by
    rw [List.foldl_cons]
    by_cases c : a ∈ acc
    · rw [if_pos c]
      obtain ⟨h1, h2, h3⟩ := dedup_spec g acc h
      refine ⟨h1, fun r => ?_, by rw [List.length_cons]; omega⟩
      rw [h2, List.mem_cons]
      constructor
      · rintro (q | q)
        · exact .inl q
        · exact .inr (.inr q)
      · rintro (q | q | q)
        · exact .inl q
        · exact .inl (q ▸ c)
        · exact .inr q
    · rw [if_neg c]
      have hn : (acc ++ [a]).Nodup := by
        rw [List.nodup_append]
        exact ⟨h, by simp, fun x hx y hy => by simp at hy; subst hy; exact fun e => c (e ▸ hx)⟩
      obtain ⟨h1, h2, h3⟩ := dedup_spec g (acc ++ [a]) hn
      rw [List.length_append, List.length_singleton] at h3
      refine ⟨h1, fun r => ?_, by rw [List.length_cons]; omega⟩
      rw [h2, List.mem_cons, List.mem_append, List.mem_singleton]
      constructor
      · rintro ((q | q) | q)
        · exact .inl q
        · exact .inr (.inl q)
        · exact .inr (.inr q)
      · rintro (q | q | q)
        · exact .inl (.inl q)
        · exact .inl (.inr q)
        · exact .inr q
def Used (g : Gram) (n : Str) : Prop := ∃ r ∈ g, n ∈ r.2
def Ruled (g : Gram) (n : Str) : Prop := ∃ r ∈ g, r.1 = n
structure ClI (g : Gram) : Prop where
  nd : g.Nodup
  ok : ∀ r ∈ g, okDraw r = true
theorem isSab_cases {s : Str} (h : isSab s = true) : s = "S" ∨ s = "A" ∨ s = "B" := by
  unfold isSab at h
  simp only [Bool.or_eq_true, decide_eq_true_eq] at h
  rcases h with (h | h) | h
  · exact .inl h
  · exact .inr (.inl h)
  · exact .inr (.inr h)
theorem isAbc_cases {s : Str} (h : isAbc s = true) : s = "a" ∨ s = "b" ∨ s = "c" := by
  unfold isAbc at h
  simp only [Bool.or_eq_true, decide_eq_true_eq] at h
  rcases h with (h | h) | h
  · exact .inl h
  · exact .inr (.inl h)
  · exact .inr (.inr h)
theorem closer_ok {n : Str} (h : isSab n = true) : okDraw (n, [closer n]) = true ∧ ∀ m, isSab m = true → m ≠ closer n := by
  have k : ∀ a ∈ (["S", "A", "B"] : List Str), okDraw (a, [closer a]) = true ∧ ∀ m ∈ (["S", "A", "B"] : List Str), m ≠ closer a := by decide +kernel
  have hm : ∀ {n : Str}, isSab n = true → n ∈ (["S", "A", "B"] : List Str) := fun h => by rcases isSab_cases h with e | e | e <;> simp [e]
  exact ⟨(k n (hm h)).1, fun m h2 => (k n (hm h)).2 m (hm h2)⟩
theorem filter_pos {α : Type} {p : α → Bool} {l : List α} : 0 < (l.filter p).length ↔ ∃ x ∈ l, p x = true := by
  rw [List.length_pos_iff_exists_mem]
  constructor
  · rintro ⟨x, hx⟩; exact ⟨x, (List.mem_filter.mp hx).1, (List.mem_filter.mp hx).2⟩
  · rintro ⟨x, hx, h⟩; exact ⟨x, List.mem_filter.mpr ⟨hx, h⟩⟩
theorem closeStep_spec {g : Gram} {n : Str} (I : ClI g) (hn : isSab n = true) : ClI (closeStep g n) ∧ (closeStep g n).length ≤ g.length + 1 ∧ g.length ≤ (closeStep g n).length ∧ (Used (closeStep g n) n → Ruled (closeStep g n) n) ∧ ∀ m, isSab m = true → (Used g m → Ruled g m) → (Used (closeStep g n) m → Ruled (closeStep g n) m) := by
  obtain ⟨c1, c2⟩ := closer_ok hn
  unfold closeStep
  split
  · rename_i c
    simp only [Bool.and_eq_true, decide_eq_true_eq] at c
    obtain ⟨u, z⟩ := c
    have hno : ∀ r ∈ g, r.1 ≠ n := fun r hr e => by
      have : 0 < (g.filter fun r => decide (r.1 = n)).length := filter_pos.mpr ⟨r, hr, by simpa using e⟩
      omega
    refine ⟨⟨?_, fun r hr => ?_⟩, by rw [List.length_append, List.length_singleton]; omega, by rw [List.length_append]; omega, fun _ => ⟨_, List.mem_append_right _ (List.mem_singleton.mpr rfl), rfl⟩, fun m hm h => ?_⟩
    · rw [List.nodup_append]
      exact ⟨I.nd, by simp, fun x hx y hy => by simp at hy; subst hy; exact fun e => hno x hx (by rw [e])⟩
    · rcases List.mem_append.mp hr with e | e
      · exact I.ok r e
      · simp at e; rw [e]; exact c1
    · rintro ⟨r, hr, hp⟩
      rcases List.mem_append.mp hr with e | e
      · obtain ⟨r', h1, h2⟩ := h ⟨r, e, hp⟩
        exact ⟨r', List.mem_append_left _ h1, h2⟩
      · simp at e; subst e
        simp at hp
        exact absurd hp (c2 m hm)
  · rename_i c
    refine ⟨I, by omega, Nat.le_refl _, fun hu => ?_, fun m hm h => h⟩
    have h1 : 0 < (g.filter fun r => decide (n ∈ r.2)).length := by
      obtain ⟨r, hr, hp⟩ := hu
      exact filter_pos.mpr ⟨r, hr, by simpa using hp⟩
    have h2 : ¬ (g.filter fun r => decide (r.1 = n)).length = 0 := fun h2 => c (by rw [decide_eq_true h1, decide_eq_true h2]; rfl)
    obtain ⟨r, hr, he⟩ := filter_pos.mp (Nat.pos_of_ne_zero h2)
    exact ⟨r, hr, by simpa using he⟩
theorem sab_name : ∀ s : Str, isSab s = true → isName s = true ∧ isLetter s = false := fun s h => by
  have k : ∀ a ∈ (["S", "A", "B"] : List Str), isName a = true ∧ isLetter a = false := by decide +kernel
  exact k s (by rcases isSab_cases h with e | e | e <;> simp [e])
theorem abc_letter : ∀ s : Str, isAbc s = true → isLetter s = true := fun s h => by
  have k : ∀ a ∈ (["a", "b", "c"] : List Str), isLetter a = true := by decide +kernel
  exact k s (by rcases isAbc_cases h with e | e | e <;> simp [e])
theorem closed_ok {g : Gram} (h1 : 1 ≤ g.length) (h2 : g.length ≤ 37) (h : ∀ r ∈ g, okDraw r = true) : GW (closed g) := by
  obtain ⟨d1, d2, d3⟩ := dedup_spec g [] List.nodup_nil
  have I0 : ClI (dedup g) := ⟨d1, fun r hr => h r (by simpa using (d2 r).mp hr)⟩
  have p0 : 1 ≤ (dedup g).length := by
    obtain ⟨r, hr⟩ := List.exists_mem_of_length_pos (show 0 < g.length by omega)
    have : r ∈ dedup g := (d2 r).mpr (.inr hr)
    exact List.length_pos_of_mem this
  have l0 : (dedup g).length ≤ g.length := by rw [List.length_nil, Nat.zero_add] at d3; exact d3
  obtain ⟨I1, a1, b1, u1, k1⟩ := closeStep_spec I0 (n := "S") (by decide)
  obtain ⟨I2, a2, b2, u2, k2⟩ := closeStep_spec I1 (n := "A") (by decide)
  obtain ⟨I3, a3, b3, u3, k3⟩ := closeStep_spec I2 (n := "B") (by decide)
  have e : closed g = closeStep (closeStep (closeStep (dedup g) "S") "A") "B" := rfl
  rw [e]
  generalize closeStep (closeStep (closeStep (dedup g) "S") "A") "B" = f at *
  have cov : ∀ n, isSab n = true → Used f n → Ruled f n := fun n hn => by
    rcases isSab_cases hn with q | q | q
    · subst q; exact k3 _ hn (k2 _ hn u1)
    · subst q; exact k3 _ hn u2
    · subst q; exact u3
  have okp : ∀ r ∈ f, isSab r.1 = true ∧ r.2.length ≤ 6 ∧ ∀ p ∈ r.2, isSab p = true ∨ isAbc p = true := fun r hr => by
    have := I3.ok r hr
    unfold okDraw at this
    simp only [Bool.and_eq_true, decide_eq_true_eq, List.all_eq_true, Bool.or_eq_true] at this
    exact ⟨this.1.1, this.1.2, this.2⟩
  refine ⟨⟨by omega, by omega, I3.nd, fun r hr => (sab_name _ (okp r hr).1).1, fun r hr => (okp r hr).2.1, fun r hr p hp => ?_⟩, fun r hr => (okp r hr).1, fun r hr p hp hl => ?_⟩
  · rcases (okp r hr).2.2 p hp with q | q
    · obtain ⟨r', h3, h4⟩ := cov p q ⟨r, hr, hp⟩
      exact .inr ⟨(sab_name p q).1, List.mem_map.mpr ⟨r', h3, h4⟩⟩
    · exact .inl (abc_letter p q)
  · rcases (okp r hr).2.2 p hp with q | q
    · rw [(sab_name p q).2] at hl; cases hl
    · exact q
theorem index_ok : ∀ n ∈ (["S", "A", "B"] : List Str), ∃ k : Nat, Txt.index0 "SAB" n = some k ∧ (["c", "a", "b"] : List Str)[k]? = some (closer n) := by
  have k : ∀ n ∈ (["S", "A", "B"] : List Str), ((Txt.index0 "SAB" n).bind fun k => (["c", "a", "b"] : List Str)[k]?) = some (closer n) := by decide +kernel
  intro n hn
  obtain ⟨j, h1, h2⟩ := Option.bind_eq_some_iff.mp (k n hn)
  exact ⟨j, h1, h2⟩
theorem ok_closed (T : Top K mg "_law_closed" st__law_closed ["rules"]) (M : Blt mg) : D_closed P w K mg base := T.df fun f fd F => by
  refine fn_pure F sc__law_closed (fun _ => rfl) no1 fun g ⟨hg, h6⟩ cdv Aa outer sh H E B hr => ?_
  have hg : g.length ≤ 40 := hg
  have h6 : ∀ r ∈ g, r.2.length ≤ 6 := h6
  show PSl _ _ [.dat rGram g, .un, .un, .un, .un, .un] _ _
  refine ss_own0 1 rRule ?_ sc__law_closed.nd
  refine ss_for (fun i es => ∃ (acc : Gram) (a : Sl), acc = (g.take i).foldl (fun acc r => if r ∈ acc then acc else acc ++ [r]) [] ∧ acc.length ≤ i ∧ es = [.dat rGram g, .own (.lst rRule acc), a, .un, .un, .un])
    (it_list (pr_var 0)) (tg_name 2 sc__law_closed.nd) ⟨[], .un, rfl, Nat.zero_le _, rfl⟩ ?_ ?_ PassesOwn.never rfl
  · rintro B' i r _ hi ⟨acc, a, hacc, hl, rfl⟩
    have hil := (List.getElem?_eq_some_iff.mp hi).1
    show PSl _ _ [.dat rGram g, .own (.lst rRule acc), .dat rRule r, .un, .un, .un] _ _
    have hnx : (g.take (i + 1)).foldl (fun acc r => if r ∈ acc then acc else acc ++ [r]) [] = if r ∈ acc then acc else acc ++ [r] := by rw [take_succ hi, List.foldl_append, ← hacc]; rfl
    refine ss_if2 (pb_cmp (pr_var 2) (pr_own 1) (cmp_niQ ecRule inj_rule (fun y => by rw [dep_rule]; omega) (hu_n hr (by omega)))) (fun c => ?_) (fun c => ?_)
    · have c : ¬ r ∈ acc := by simpa using c
      refine ss_append 1 (pr_var 2) (ss_nil (ss_nil ⟨acc ++ [r], .dat rRule r, ?_, ?_, rfl⟩)) ?_
      · rw [hnx, if_neg c]
      · rw [List.length_append, List.length_singleton]; omega
      · exact smallL (by omega)
    · have c : r ∈ acc := by simpa using c
      exact ss_nil (ss_nil ⟨acc, .dat rRule r, by rw [hnx, if_pos c], by omega, rfl⟩)
  rintro _ ⟨acc0, a, hacc0, hl0, rfl⟩
  have hacc0 : acc0 = dedup g := by rw [hacc0, List.take_length]; rfl
  obtain ⟨d1, d2, d3⟩ := dedup_spec g [] List.nodup_nil
  have h60 : ∀ r ∈ acc0, r.2.length ≤ 6 := fun r hr => by
    rw [hacc0] at hr
    exact h6 r (by simpa using (d2 r).mp hr)
  clear d1 d2 d3
  refine ss_for (fun i es => ∃ (acc : Gram) (a2 a3 a4 a5 : Sl), acc = ((["S", "A", "B"] : List Str).take i).foldl closeStep (dedup g) ∧ acc.length ≤ 40 + i ∧ (∀ r ∈ acc, r.2.length ≤ 6) ∧ es = [.dat rGram g, .own (.lst rRule acc), a2, a3, a4, a5])
    (it_list (pr_lst Rp.str ["S", "A", "B"] (par_cons pr_str (par_cons pr_str (par_cons pr_str par_nil))))) (tg_name 3 sc__law_closed.nd) ⟨acc0, _, _, _, _, hacc0, by omega, h60, rfl⟩ ?_ ?_ PassesOwn.never rfl
  · rintro B' i name _ hi ⟨acc, a2, a3, a4, a5, hacc, hl, h6, rfl⟩
    have hil := (List.getElem?_eq_some_iff.mp hi).1
    have hil : i < 3 := hil
    have hname : name ∈ (["S", "A", "B"] : List Str) := List.mem_of_getElem? hi
    show PSl _ _ [.dat rGram g, .own (.lst rRule acc), a2, .dat Rp.str name, a4, a5] _ _
    have hnx : ((["S", "A", "B"] : List Str).take (i + 1)).foldl closeStep (dedup g) = closeStep acc name := by rw [take_succ hi, List.foldl_append, ← hacc]; rfl
    refine ss_setLcO 4 [("rule", 2)] (cc := fun (r : Rule) => decide (r.1 = name)) (f := fun r => r) (it_own (pr_own 1)) (fun _ _ _ _ _ => tg_name 2 sc__law_closed.nd) (fun y hy _ _ _ _ _ => pts_1 (pb_cmp (pr_ix (pr_var 2) pr_int ix_P0) (pr_var 3) cmp_eqS)) (fun y hy _ _ _ _ _ _ => pr_var 2) (small (by omega)) sc__law_closed.nd ?_ (List.map_id' _)
    refine ss_setLcO 5 [("rule", 2)] (cc := fun (r : Rule) => decide (name ∈ r.2)) (f := fun r => r) (it_own (pr_own 1)) (fun _ _ _ _ _ => tg_name 2 sc__law_closed.nd) (fun y hy _ _ _ _ _ => pts_1 (pb_cmp (pr_var 3) (pr_ix (pr_var 2) pr_int ix_P1) cmp_inT)) (fun y hy _ _ _ _ _ _ => pr_var 2) (small (by omega)) sc__law_closed.nd ?_ (List.map_id' _)
    show PSl _ _ [.dat rGram g, .own (.lst rRule acc), a2, .dat Rp.str name, .dat rGram (acc.filter fun r => decide (r.1 = name)), .dat rGram (acc.filter fun r => decide (name ∈ r.2))] _ _
    have e1 : decide ((0 : Int) < (((acc.filter fun r => decide (name ∈ r.2)).length : Nat) : Int)) = decide (0 < (acc.filter fun r => decide (name ∈ r.2)).length) := by rw [decide_eq_decide]; omega
    have e2 : decide ((((acc.filter fun r => decide (r.1 = name)).length : Nat) : Int) = 0) = decide ((acc.filter fun r => decide (r.1 = name)).length = 0) := by rw [decide_eq_decide]; omega
    refine ss_if2 (k := decide (0 < (acc.filter fun r => decide (name ∈ r.2)).length) && decide ((acc.filter fun r => decide (r.1 = name)).length = 0)) (pb_w (pbw_and (pb_eq (pb_cmp (pr_callB (par_cons (pr_l (pr_var 5)) par_nil) M.len cb_lenL) pr_int cmp_gt) e1) fun _ => pbw_and1 (pb_eq (pb_cmp (pr_callB (par_cons (pr_l (pr_var 4)) par_nil) M.len cb_lenL) pr_int cmp_eqI) e2))) (fun c => ?_) (fun c => ?_)
    · obtain ⟨k, hk1, hk2⟩ := index_ok name hname
      refine ss_append 1 (d := (name, [closer name])) (pr_pair (pr_var 3) (pr_tup Rp.str [closer name] (par_cons (pr_ix (pr_l (pr_lst Rp.str ["c", "a", "b"] (par_cons pr_str (par_cons pr_str (par_cons pr_str par_nil))))) (pr_index pr_str (pr_var 3) hk1) (ix_L (atI_nat hk2))) par_nil) (small (by simp)))) (ss_nil (ss_nil ⟨acc ++ [(name, [closer name])], a2, .dat Rp.str name, _, _, ?_, ?_, ?_, rfl⟩)) ?_
      · rw [hnx]; unfold closeStep; rw [if_pos c]
      · rw [List.length_append, List.length_singleton]; omega
      · intro r hr
        rcases List.mem_append.mp hr with e | e
        · exact h6 r e
        · simp at e; rw [e]; show [closer name].length ≤ 6; rw [List.length_singleton]; decide
      · exact smallL (by omega)
    · refine ss_nil (ss_nil ⟨acc, _, _, _, _, ?_, by omega, h6, rfl⟩)
      rw [hnx]; unfold closeStep; rw [if_neg (by rw [c]; exact Bool.false_ne_true)]
  · rintro _ ⟨acc, a2, a3, a4, a5, hacc, hl, h6, rfl⟩
    refine ss_frzL 1 ?_
    refine ss_ret (pr_var 1) fun G v h => ?_
    rw [hacc] at h
    exact h
theorem nx_ok {K : PySem.W.Frag} {ns : List Int} {pp : Addr} (G H : Hp) (vs : List V) (_ : Same G H) (h : Als K G H vs [Rp.int.scr.at ns, (Rp.ref pp).at ()]) : ∃ i : List Int, SlA K G vs [.dat Rp.int.scr i, .dat (Rp.ref pp) ()] ∧ True ∧ ∀ b : Int, True → True :=
  ⟨ns, als_sl (ss := [.dat Rp.int.scr ns, .dat (Rp.ref pp) ()]) h, trivial, fun _ _ => trivial⟩
theorem ok_grammar (T : Top K mg "_law_grammar" st__law_grammar ["script", "spot"]) (M : Blt mg) (D1 : D_next P w K mg base) (D2 : D_rule_by P w K mg base) (D3 : D_known P w K mg base) (D4 : D_closed P w K mg base) : D_grammar P w K mg base := T.df fun f fd F => by
  refine fn_mut F sc__law_grammar (fun _ _ => rfl) (fun _ => no2) (fun _ _ => rfl) fun ns _ pp cdv Aa outer sh H E B hr => ?_
  show PSl _ _ [.dat Rp.int.scr ns, .own (spotAt pp), .un, .un, .un, .un] _ _
  refine ss_setM 2 (φ := fun _ : Int => True) (pm_call 1 D1 (hr.mono (by decide)) (par_cons (pr_var 0) (par_cons (pr_spot 1) par_nil)) nx_ok) (fun cell _ => ?_) sc__law_grammar.nd
  show PSl _ _ [.dat Rp.int.scr ns, .own (spotAt pp), .dat Rp.int cell, .un, .un, .un] _ _
  refine ss_if (fun es => ∃ (many : Int) (rules : Gram), 0 ≤ many ∧ many ≤ 6 ∧ 1 ≤ many + rules.length ∧ rules.length ≤ 10 ∧ (∀ r ∈ rules, okDraw r = true) ∧ es = [.dat Rp.int.scr ns, .own (spotAt pp), .dat Rp.int cell, .dat Rp.int many, .own (.lst rRule rules), .un])
    (pb_cmp (pr_bin (pr_var 2) pr_int (bin_mod (by decide))) pr_int cmp_eqI) (fun _ => ?_) (fun _ => ?_) ?_
  · have h0 := Int.emod_nonneg (cell / 2) (show (6 : Int) ≠ 0 by decide)
    have h1 := Int.emod_lt_of_pos (cell / 2) (show (0 : Int) < 6 by decide)
    refine ss_set 3 (pr_bin pr_int (pr_bin (pr_bin (pr_var 2) pr_int (bin_div (by decide))) pr_int (bin_mod (by decide))) bin_add) ?_ sc__law_grammar.nd
    refine ss_own0 4 rRule (ss_nil ⟨1 + cell / 2 % 6, [], by omega, by omega, by simp; omega, by simp, by simp, rfl⟩) sc__law_grammar.nd
  · have h0 := Int.emod_nonneg (cell / 32) (show (3 : Int) ≠ 0 by decide)
    have h1 := Int.emod_lt_of_pos (cell / 32) (show (0 : Int) < 3 by decide)
    have hx0 := Int.emod_nonneg (cell / 2) (show (16 : Int) ≠ 0 by decide)
    have hx1 := Int.emod_lt_of_pos (cell / 2) (show (0 : Int) < 16 by decide)
    have hlen : (known16.length : Int) = 16 := by decide
    obtain ⟨_, _, k3, k4, k5⟩ := known_ok _ (gi_mem (l := known16) hx0 (by omega))
    refine ss_set 3 (pr_bin (pr_bin (pr_var 2) pr_int (bin_div (by decide))) pr_int (bin_mod (by decide))) ?_ sc__law_grammar.nd
    refine ss_setN 4 (pn_call D3 (hr.mono (by decide)) (cell / 2) (par_cons (pr_bin (pr_var 2) pr_int (bin_div (by decide))) par_nil) trivial) (ss_nil ⟨cell / 32 % 3, knownG (gi known16 (cell / 2 % 16)), h0, by omega, ?_, ?_, fun r hr => List.all_eq_true.mp k5 r hr, rfl⟩) sc__law_grammar.nd
    · unfold knownG; rw [List.length_map]; omega
    · unfold knownG; rw [List.length_map]; exact k3
  · rintro _ ⟨many, rules, m0, m1, m2, m3, hok, rfl⟩
    refine ss_for (fun i es => ∃ (acc : Gram) (a : Sl), acc.length = rules.length + i ∧ (∀ r ∈ acc, okDraw r = true) ∧ es = [.dat Rp.int.scr ns, .own (spotAt pp), .dat Rp.int cell, .dat Rp.int many, .own (.lst rRule acc), a])
      (it_range (pr_var 3) (by omega) (by omega) M.range) (tg_name 5 sc__law_grammar.nd) ⟨rules, .un, rfl, hok, rfl⟩ ?_ ?_ PassesOwn.never rfl
    · rintro B' i k _ hi ⟨acc, a, hl, hok, rfl⟩
      have hil := (List.getElem?_eq_some_iff.mp hi).1
      have hil : i < many.toNat := by simpa [upTo] using hil
      show PSl _ _ [.dat Rp.int.scr ns, .own (spotAt pp), .dat Rp.int cell, .dat Rp.int many, .own (.lst rRule acc), .dat Rp.int k] _ _
      refine ss_appendM 4 (φ := fun r : Rule => okDraw r = true) (pm_pure1 (φ := fun _ : Int => True) D2 (hr.mono (by decide)) (pm_call 1 D1 (hr.mono (by decide)) (par_cons (pr_var 0) (par_cons (pr_spot 1) par_nil)) nx_ok) (fun b _ => ⟨b, rfl, trivial, ruleBy_ok b⟩)) (fun d hd => ?_) ?_
      · refine ss_nil ⟨acc ++ [d], .dat Rp.int k, by rw [List.length_append, List.length_singleton, hl]; omega, fun r hr => ?_, rfl⟩
        rcases List.mem_append.mp hr with e | e
        · exact hok r e
        · simp at e; rw [e]; exact hd
      · exact smallL (by omega)
    · rintro _ ⟨acc, a, hl, hok, rfl⟩
      have hul : (upTo many).length = many.toNat := by simp [upTo]
      rw [hul] at hl
      refine ss_frzL 4 ?_
      refine ss_retM 1 (φ := fun g : Gram => GW g) (pr_call D4 (hr.mono (by decide)) acc (par_cons (pr_var 4) par_nil) ⟨by omega, fun r hr => ?_⟩) (closed_ok (by omega) (by omega) hok) fun _ _ _ h => h
      have := hok r hr
      unfold okDraw at this
      simp only [Bool.and_eq_true, decide_eq_true_eq] at this
      exact this.1.2
end
end Rw

/-! RwLc: _law_heights -/
namespace Rw
open PySem PyProof.Rows L2
abbrev Hts := List (Str × Int)
def ht (hs : Hts) (n : Str) : Int := (dget hs n).getD 0
def mxH (hs : Hts) (ps : List Str) : Int := (ps.map (ht hs)).foldr max 0
theorem mx_spec : ∀ l : List Int, l.foldr max 0 ∈ l ++ [0] ∧ (∀ y ∈ l ++ [0], y ≤ l.foldr max 0)
  | [] => ⟨by simp, by simp⟩
  | a :: l => by
    obtain ⟨h1, h2⟩ := mx_spec l
    rw [List.foldr_cons, List.cons_append]
    refine ⟨?_, fun y hy => ?_⟩
    · by_cases c : a ≤ l.foldr max 0
      · rw [Int.max_eq_right c]; exact List.mem_cons_of_mem _ h1
      · rw [Int.max_eq_left (by omega)]; simp
    · rcases List.mem_cons.mp hy with e | e
      · subst e; exact Int.le_max_left _ _
      · exact Int.le_trans (h2 y e) (Int.le_max_right _ _)
section
variable {κ α : Type} [DecidableEq κ]
theorem dget_dput {l : List (κ × α)} {k j : κ} {v : α} : dget (dput l k v) j = if k = j then some v else dget l j := by
  unfold dput
  by_cases c : dhas l k = true
  · rw [if_pos c]
    induction l with
    | nil => cases c
    | cons p l ih =>
      rw [List.map_cons, dget_cons]
      rw [dhas_cons] at c
      by_cases e : p.1 = k
      · rw [if_pos e]
        by_cases e2 : k = j
        · rw [if_pos e2, if_pos (by show p.1 = j; rw [e, e2])]
        · rw [if_neg e2, if_neg (by show ¬ p.1 = j; rw [e]; exact e2), dget_cons, if_neg (by rw [e]; exact e2)]
          by_cases c2 : dhas l k = true
          · rw [ih c2, if_neg e2]
          · have : l.map (fun kv => if kv.1 = k then (kv.1, v) else kv) = l := by
              rw [List.map_congr_left (g := id), List.map_id]
              intro x hx
              have : ¬ x.1 = k := fun q => c2 (dhas_mem.mpr (List.mem_map.mpr ⟨x, hx, q⟩))
              rw [if_neg this]; rfl
            rw [this]
      · rw [if_neg e, decide_eq_false e, Bool.false_or] at *
        rw [ih c]
        by_cases e2 : k = j
        · rw [if_pos e2, if_neg (by rw [← e2]; exact e), if_pos e2]
        · rw [if_neg e2, dget_cons, if_neg e2]
  · rw [if_neg c]
    have hn : dget l k = none := by
      cases e : dget l k with
      | none => rfl
      | some v' => exact absurd (by rw [← dget_isSome, e]; rfl) c
    clear c
    induction l with
    | nil => show dget [(k, v)] j = _; rw [dget_cons]
    | cons p l ih =>
      rw [dget_cons] at hn
      by_cases e : p.1 = k
      · rw [if_pos e] at hn; cases hn
      · rw [if_neg e] at hn
        rw [List.cons_append, dget_cons, ih hn, dget_cons]
        by_cases e2 : k = j
        · rw [if_neg (by rw [← e2]; exact e), if_pos e2, if_pos e2]
        · rw [if_neg e2, if_neg e2]
theorem dhas_some {l : List (κ × α)} {k : κ} : dhas l k = true ↔ ∃ v, dget l k = some v := by
  rw [← dget_isSome, Option.isSome_iff_exists]
theorem dput_length {l : List (κ × α)} {k : κ} {v : α} : (dput l k v).length = if dhas l k = true then l.length else l.length + 1 := by
  unfold dput
  split <;> simp
theorem dhas_dput_iff {l : List (κ × α)} {k j : κ} {v : α} : dhas (dput l k v) j = true ↔ k = j ∨ dhas l j = true := by
  rw [dhas_some, dget_dput]
  by_cases e : k = j
  · simp [e]
  · rw [if_neg e, ← dhas_some]; simp [e]
end
def abcL : List Str := ["a", "b", "c"]
theorem mem_abcL {s : Str} : s ∈ abcL ↔ isAbc s = true := by
  unfold abcL isAbc
  simp [or_assoc]
structure HtI (g : Gram) (hs : Hts) : Prop where
  nd : (hs.map (·.1)).Nodup
  sub : ∀ k ∈ hs.map (·.1), isAbc k = true ∨ k ∈ g.map (·.1)
  abc : ∀ s, isAbc s = true → dget hs s = some 0
  kn : ∀ n h, dget hs n = some h → isAbc n = false → 1 ≤ h ∧ ∃ ps, (n, ps) ∈ g ∧ ∀ p ∈ ps, ∃ h', dget hs p = some h' ∧ h' < h
  lo : ∀ n h, dget hs n = some h → 0 ≤ h ∧ h ≤ hs.length
def Closed (g : Gram) (hs : Hts) : Prop := ∀ r ∈ g, (∀ p ∈ r.2, dhas hs p = true) → dhas hs r.1 = true
structure HtT (g : Gram) (hs0 : Hts) (j : Nat) (hs : Hts) : Prop where
  up : ∀ k, dhas hs0 k = true → dhas hs k = true
  le : hs0.length ≤ hs.length
  eq : hs.length = hs0.length → ∀ r ∈ g.take j, (∀ p ∈ r.2, dhas hs0 p = true) → dhas hs0 r.1 = true
  cl : Closed g hs0 → ∀ k, dhas hs k = true → dhas hs0 k = true
def htVal (hs : Hts) (n : Str) (high : Int) : Int := if (dget hs n).getD high < high then (dget hs n).getD high else high
section
variable {g : Gram} {hs hs0 : Hts} {j : Nat} {n : Str} {ps : List Str} {r : Rule}
theorem HtI.len (h : HtI g hs) : hs.length ≤ 3 + g.length := by
  have := nodup_le (m := abcL ++ g.map (·.1)) h.nd fun k hk => by
    rcases h.sub k hk with e | e
    · exact List.mem_append_left _ (mem_abcL.mpr e)
    · exact List.mem_append_right _ e
  rw [List.length_map, List.length_append, List.length_map] at this
  exact this
theorem mxH_le (h : HtI g hs) (ha : ∀ p ∈ ps, dhas hs p = true) : 0 ≤ mxH hs ps ∧ mxH hs ps ≤ hs.length ∧ ∀ p ∈ ps, ht hs p ≤ mxH hs ps := by
  obtain ⟨m1, m2⟩ := mx_spec (ps.map (ht hs))
  refine ⟨m2 0 (by simp), ?_, fun p hp => m2 _ (List.mem_append_left _ (List.mem_map.mpr ⟨p, hp, rfl⟩))⟩
  rcases List.mem_append.mp m1 with q | q
  · obtain ⟨p, hp, e⟩ := List.mem_map.mp q
    obtain ⟨v, hv⟩ := dhas_some.mp (ha p hp)
    have := (h.lo p v hv).2
    show (ps.map (ht hs)).foldr max 0 ≤ _
    rw [← e]
    show (dget hs p).getD 0 ≤ _
    rw [hv]; exact this
  · have q : (ps.map (ht hs)).foldr max 0 = 0 := by simpa using q
    show (ps.map (ht hs)).foldr max 0 ≤ _
    rw [q]; omega
theorem HtI.step (W : WF g) (h : HtI g hs) (hr : (n, ps) ∈ g) (ha : ∀ p ∈ ps, dhas hs p = true) : HtI g (dput hs n (htVal hs n (1 + mxH hs ps))) := by
  obtain ⟨m0, m1, m2⟩ := mxH_le h ha
  have hna : isAbc n = false := by
    have h1 := W.name _ hr
    cases e : isAbc n with
    | false => rfl
    | true =>
      rcases isAbc_cases e with q | q | q <;> rw [show (n, ps).1 = n from rfl, q] at h1 <;> exact absurd h1 (by decide +kernel)
  have key : (∃ old, dget hs n = some old ∧ htVal hs n (1 + mxH hs ps) = old) ∨ (htVal hs n (1 + mxH hs ps) = 1 + mxH hs ps ∧ ∀ old, dget hs n = some old → 1 + mxH hs ps ≤ old) := by
    unfold htVal
    cases e : dget hs n with
    | none => exact .inr ⟨by simp, fun old q => by cases q⟩
    | some old =>
      by_cases c : old < 1 + mxH hs ps
      · exact .inl ⟨old, rfl, by simp [c]⟩
      · exact .inr ⟨by simp [c], fun o q => by cases q; omega⟩
  have hsub : ∀ k ∈ (dput hs n (htVal hs n (1 + mxH hs ps))).map (·.1), isAbc k = true ∨ k ∈ g.map (·.1) := fun k hk => by
    rcases dhas_dput_iff.mp (dhas_mem.mpr hk) with e | e
    · subst e; exact .inr (List.mem_map.mpr ⟨_, hr, rfl⟩)
    · exact h.sub k (dhas_mem.mp e)
  have habc : ∀ s, isAbc s = true → dget (dput hs n (htVal hs n (1 + mxH hs ps))) s = some 0 := fun s hsa => by
    rw [dget_dput, if_neg (fun q => by rw [q, hsa] at hna; cases hna)]
    exact h.abc s hsa
  rcases key with ⟨old, hold, hv⟩ | ⟨hv, hold⟩
  · have same : ∀ k, dget (dput hs n old) k = dget hs k := fun k => by
      rw [dget_dput]
      by_cases e : n = k
      · rw [if_pos e, ← e, hold]
      · rw [if_neg e]
    rw [hv] at hsub habc ⊢
    have hl : (dput hs n old).length = hs.length := by rw [dput_length, if_pos (dhas_some.mpr ⟨old, hold⟩)]
    refine ⟨dput_nd h.nd, hsub, habc, fun k hh e ha => ?_, fun k hh e => ?_⟩
    · rw [same] at e
      obtain ⟨k1, ps', k2, k3⟩ := h.kn k hh e ha
      exact ⟨k1, ps', k2, fun p hp => by rw [same]; exact k3 p hp⟩
    · rw [same] at e; rw [hl]; exact h.lo k hh e
  · rw [hv] at hsub habc ⊢
    have hl : hs.length ≤ (dput hs n (1 + mxH hs ps)).length := by rw [dput_length]; split <;> omega
    have hps : ∀ p ∈ ps, ∃ h', dget hs p = some h' ∧ h' < 1 + mxH hs ps := fun p hp => by
      obtain ⟨v, hv⟩ := dhas_some.mp (ha p hp)
      have := m2 p hp
      unfold ht at this
      rw [hv] at this
      exact ⟨v, hv, by show v < _; have : v ≤ mxH hs ps := this; omega⟩
    refine ⟨dput_nd h.nd, hsub, habc, fun k hh e hka => ?_, fun k hh e => ?_⟩
    · rw [dget_dput] at e
      by_cases c : n = k
      · rw [if_pos c] at e; cases e
        subst c
        refine ⟨by omega, ps, hr, fun p hp => ?_⟩
        obtain ⟨v, h1, h2⟩ := hps p hp
        refine ⟨v, ?_, h2⟩
        rw [dget_dput, if_neg (fun q => by subst q; have := hold v h1; omega)]
        exact h1
      · rw [if_neg c] at e
        obtain ⟨k1, ps', k2, k3⟩ := h.kn k hh e hka
        refine ⟨k1, ps', k2, fun p hp => ?_⟩
        obtain ⟨v, h1, h2⟩ := k3 p hp
        by_cases c2 : n = p
        · subst c2
          exact ⟨_, by rw [dget_dput, if_pos rfl], by have := hold v h1; omega⟩
        · exact ⟨v, by rw [dget_dput, if_neg c2]; exact h1, h2⟩
    · rw [dget_dput] at e
      by_cases c : n = k
      · rw [if_pos c] at e; cases e
        refine ⟨by omega, ?_⟩
        rw [dput_length]
        by_cases c2 : dhas hs n = true
        · rw [if_pos c2]
          obtain ⟨old, ho⟩ := dhas_some.mp c2
          have := hold old ho
          have := (h.lo n old ho).2
          omega
        · rw [if_neg c2]; omega
      · rw [if_neg c] at e
        have := h.lo k hh e
        omega
theorem keys_same (hn : (hs0.map (·.1)).Nodup) (hn2 : (hs.map (·.1)).Nodup) (up : ∀ k, dhas hs0 k = true → dhas hs k = true) (hl : hs.length = hs0.length) {k : Str} (hk : dhas hs k = true) : dhas hs0 k = true := by
  cases e : dhas hs0 k with
  | true => rfl
  | false =>
    have hnk : k ∉ hs0.map (·.1) := fun q => by rw [dhas_mem.mpr q] at e; cases e
    have := nodup_le (l := k :: hs0.map (·.1)) (m := hs.map (·.1)) (List.nodup_cons.mpr ⟨hnk, hn⟩) fun x hx => by
      rcases List.mem_cons.mp hx with q | q
      · rw [q]; exact dhas_mem.mp hk
      · exact dhas_mem.mp (up x (dhas_mem.mpr q))
    rw [List.length_cons, List.length_map, List.length_map] at this
    omega
theorem HtT.init (hs : Hts) : HtT g hs 0 hs := ⟨fun _ h => h, Nat.le_refl _, fun _ r hr => by simp at hr, fun _ _ h => h⟩
theorem HtT.yes {v : Int} (I0 : HtI g hs0) (I : HtI g hs) (h : HtT g hs0 j hs) (hi : g[j]? = some (n, ps)) (ha : ∀ p ∈ ps, dhas hs p = true) : HtT g hs0 (j + 1) (dput hs n v) := by
  have hr : (n, ps) ∈ g := List.mem_of_getElem? hi
  have hle : hs.length ≤ (dput hs n v).length := by rw [dput_length]; split <;> omega
  refine ⟨fun k hk => dhas_dput (h.up k hk), Nat.le_trans h.le hle, fun e r hrt hp => ?_, fun c k hk => ?_⟩
  · have e1 : hs.length = hs0.length := by have := h.le; omega
    rw [take_succ hi] at hrt
    rcases List.mem_append.mp hrt with q | q
    · exact h.eq e1 r q hp
    · simp at q; subst q
      have hin : dhas hs n = true := by
        cases c : dhas hs n with
        | true => rfl
        | false => rw [dput_length, if_neg (by rw [c]; exact Bool.false_ne_true)] at e; omega
      exact keys_same I0.nd I.nd h.up e1 hin
  · rcases dhas_dput_iff.mp hk with e | e
    · subst e
      exact c _ hr fun p hp => h.cl c p (ha p hp)
    · exact h.cl c k e
theorem HtT.no (h : HtT g hs0 j hs) (hi : g[j]? = some (n, ps)) (ha : ¬ ∀ p ∈ ps, dhas hs p = true) : HtT g hs0 (j + 1) hs := by
  refine ⟨h.up, h.le, fun e r hrt hp => ?_, h.cl⟩
  rw [take_succ hi] at hrt
  rcases List.mem_append.mp hrt with q | q
  · exact h.eq e r q hp
  · simp at q; subst q
    exact absurd (fun p hp' => h.up p (hp p hp')) ha
theorem HtT.done {i : Nat} (I0 : HtI g hs0) (I : HtI g hs) (c : Closed g hs0 ∨ 3 + i ≤ hs0.length) (h : HtT g hs0 g.length hs) : Closed g hs ∨ 3 + (i + 1) ≤ hs.length := by
  have closeUp : Closed g hs0 → (∀ k, dhas hs k = true → dhas hs0 k = true) → Closed g hs := fun c k r hr hp => h.up _ (c r hr fun p hp' => k p (hp p hp'))
  rcases c with c | c
  · exact .inl (closeUp c (h.cl c))
  · by_cases e : hs.length = hs0.length
    · refine .inl (closeUp (fun r hr hp => h.eq e r (by rw [List.take_length]; exact hr) hp) fun k hk => keys_same I0.nd I.nd h.up e hk)
    · have := h.le
      exact .inr (by omega)
end
structure HtOk (g : Gram) (hs : Hts) : Prop where
  ti : HtI g hs
  cl : Closed g hs
def hts0 : Hts := [("a", 0), ("b", 0), ("c", 0)]
theorem hts0_ok (g : Gram) : HtI g hts0 := by
  have hget : ∀ s, dget hts0 s = if isAbc s = true then some 0 else none := fun s => by
    unfold hts0 isAbc
    rw [dget_cons, dget_cons, dget_cons, dget_nil]
    by_cases c1 : s = "a"
    · subst c1; rfl
    · rw [if_neg (fun q => c1 q.symm)]
      by_cases c2 : s = "b"
      · subst c2; rfl
      · rw [if_neg (fun q => c2 q.symm)]
        by_cases c3 : s = "c"
        · subst c3; rfl
        · rw [if_neg (fun q => c3 q.symm)]
          simp [c1, c2, c3]
  refine ⟨by decide +kernel, fun k hk => ?_, fun s hs => by rw [hget, if_pos hs], fun n h e ha => ?_, fun n h e => ?_⟩
  · have := dhas_some.mp (dhas_mem.mpr hk)
    obtain ⟨v, hv⟩ := this
    rw [hget] at hv
    by_cases c : isAbc k = true
    · exact .inl c
    · rw [if_neg c] at hv; cases hv
  · rw [hget, if_neg (by rw [ha]; exact Bool.false_ne_true)] at e; cases e
  · rw [hget] at e
    by_cases c : isAbc n = true
    · rw [if_pos c] at e; cases e; exact ⟨Int.le_refl _, by show (0 : Int) ≤ 3; decide⟩
    · rw [if_neg c] at e; cases e
section
variable {X : Cx} {B : Bs} {es : List Sl} {e a b : Expr} {pos apos : Pos}
/-- d.get(k, z) -/
theorem pr_dgetd {α : Type} {A : Rp α} {xs : List (Str × α)} {k : Str} {z : α} (hu : X.A.units + 1 < cLine) (hd : PR X B es e (rD A xs)) (ha : PR X B es a (Rp.str.at k)) (hb : PR X B es b (A.at z)) (m : M2 X e "get" apos a b pos := by exact ⟨rfl, rfl, rfl, rfl⟩) :
    PR X B es (.Call (.Attribute e "get" apos) [a, b] [] pos) (A.at ((dget xs k).getD z)) :=
  pr_of (pe_dget2 hu hd ha hb m) fun σ G H Q E q => ⟨G, E, fun x G1 H1 s1 r1 => by
    obtain ⟨p, ds, e, h1, r, zz⟩ := id r1
    refine ⟨p, e, .inl ⟨ds, h1⟩, G1, E.step s1, fun y G2 H2 s2 ⟨e2, _⟩ => ⟨G2, E.step (s1.trans s2), fun u G3 H3 s3 ru => ?_⟩⟩
    obtain ⟨p', ds', e', h1', r', zz'⟩ := (rD A xs).mono (s2.trans s3) r1
    rw [e] at e'; cases e'
    refine ⟨_, .inl ⟨ds', .inr k, h1', e2, rfl⟩, ?_⟩
    obtain ⟨g1, g2⟩ := dget_p r' k
    cases c : dget xs k with
    | none =>
      rw [g2 c]
      refine q _ _ _ ((s1.trans s2).trans s3) ?_
      rw [c]; exact ru
    | some v =>
      obtain ⟨w, hw, rw'⟩ := g1 v c
      rw [hw]
      refine q _ _ _ ((s1.trans s2).trans s3) ?_
      rw [c]; exact rw'⟩
end
section
variable (P : Program) (w : World) (K : PySem.W.Frag) (mg : Str → Option Value) (base : Heap)
abbrev D_heights := Df P w K mg base CX0 "_law_heights" ["grammar"] 1 (spR K (ι := Gram) (fun g => [.dat rGram g]) WF Rp.int.dct HtOk)
end
section
variable {P : Program} {w : World} {K : PySem.W.Frag} {mg : Str → Option Value} {base : Heap}
theorem ok_heights (T : Top K mg "_law_heights" st__law_heights ["grammar"]) (M : Blt mg) : D_heights P w K mg base := T.df fun f fd F => by
  refine fn_rel F sc__law_heights (fun _ => rfl) no1 fun g W cdv Aa outer sh H E B hr => ?_
  have W : WF g := W
  have hl := W.le
  show PSl _ _ [.dat rGram g, .un, .un, .un, .un, .un, .un, .un] _ _
  refine ss_ownD 1 Rp.int ?_ sc__law_heights.nd
  have hab : chars "abc" = abcL := by decide +kernel
  refine ss_for (fun i es => ∃ (a : Sl), es = [.dat rGram g, .own (.dct Rp.int ((abcL.take i).foldl (fun h l => dput h l 0) [])), a, .un, .un, .un, .un, .un])
    (it_str pr_str) (tg_name 2 sc__law_heights.nd) ⟨.un, rfl⟩ ?_ ?_ PassesOwn.never rfl
  · rintro B' i l _ hi ⟨a, rfl⟩
    rw [hab] at hi
    have hil := (List.getElem?_eq_some_iff.mp hi).1
    have hil : i < 3 := hil
    show PSl _ _ [.dat rGram g, .own (.dct Rp.int ((abcL.take i).foldl (fun h l => dput h l 0) [])), .dat Rp.str l, .un, .un, .un, .un, .un] _ _
    have hlen : ((abcL.take i).foldl (fun h l => dput h l 0) ([] : Hts)).length ≤ i := by
      have : ∀ (ls : List Str) (h : Hts), (ls.foldl (fun h l => dput h l 0) h).length ≤ h.length + ls.length := by
        intro ls
        induction ls with
        | nil => intro h; exact Nat.le_refl _
        | cons x ls ih =>
          intro h
          rw [List.foldl_cons, List.length_cons]
          have h1 := ih (dput h x 0)
          have h2 := dput_len h x (0 : Int)
          omega
      have h1 := this (abcL.take i) []
      rw [List.length_take] at h1
      simp at h1; omega
    refine ss_dput 1 pr_int (pr_var 2) (ss_nil ⟨.dat Rp.str l, ?_⟩) (hu1 hr) ?_
    · rw [take_succ hi, List.foldl_append]; rfl
    · exact smallL (by omega)
  rintro _ ⟨a, rfl⟩
  have h0 : ((abcL.take (chars "abc").length).foldl (fun h l => dput h l 0) ([] : Hts)) = hts0 := by decide +kernel
  rw [h0]
  refine ss_for (fun i es => ∃ (hs : Hts) (a2 a3 a4 a5 a6 : Sl), HtI g hs ∧ (Closed g hs ∨ 3 + i ≤ hs.length) ∧ es = [.dat rGram g, .own (.dct Rp.int hs), a2, a3, a4, a5, a6, .un])
    (it_range (pr_bin (pr_callB (par_cons (pr_l (pr_var 0)) par_nil) M.len cb_lenL) pr_int bin_add) (by omega) (by omega) M.range) (tg_name 3 sc__law_heights.nd) ⟨hts0, _, _, _, _, _, hts0_ok g, .inr (Nat.le_refl _), rfl⟩ ?_ ?_ PassesOwn.never rfl
  · rintro B' i k _ hi ⟨hs0, a2, a3, a4, a5, a6, I0, c0, rfl⟩
    show PSl _ _ [.dat rGram g, .own (.dct Rp.int hs0), a2, .dat Rp.int k, a4, a5, a6, .un] _ _
    refine ss_for (fun j es => ∃ (hs : Hts) (a4 a5 a6 : Sl), HtI g hs ∧ HtT g hs0 j hs ∧ es = [.dat rGram g, .own (.dct Rp.int hs), a2, .dat Rp.int k, a4, a5, a6, .un])
      (it_list (pr_var 0)) (tg_pair 4 5 rfl sc__law_heights.nd) ⟨hs0, _, _, _, I0, HtT.init hs0, rfl⟩ ?_ ?_ PassesOwn.never rfl
    · rintro B' j ⟨n, ps⟩ _ hj ⟨hs, a4, a5, a6, I1, T1, rfl⟩
      show PSl _ _ [.dat rGram g, .own (.dct Rp.int hs), a2, .dat Rp.int k, .dat Rp.str n, .dat Rp.str.tup ps, a6, .un] _ _
      have hm : (n, ps) ∈ g := List.mem_of_getElem? hj
      have h6 : ps.length ≤ 6 := W.six _ hm
      have hsl := I1.len
      refine ss_if2 (pb_val (pr_eq (pr_callB (par_cons (pr_l (pr_lcm [("part", 7)] (fun p => dhas hs p) (it_tup (pr_var 5)) (fun _ _ _ _ _ => tg_name 7 sc__law_heights.nd) (fun y hy _ _ _ _ _ => pr_din (hu1 hr) (pr_var 7) (pr_ownD 1)) (small (by omega)) sc__law_heights.nd)) par_nil) M.all (cb_all rfl)) (show _ = ps.all (fun p => dhas hs p) by rw [List.all_map]; rfl))) (fun c => ?_) (fun c => ?_)
      · have ha : ∀ p ∈ ps, dhas hs p = true := List.all_eq_true.mp c
        obtain ⟨m1, m2⟩ := mx_spec (ps.map (ht hs))
        refine ss_set 6 (d := 1 + mxH hs ps) (pr_bin pr_int (pr_callB (par_cons (pr_l (pr_bin (pr_l (pr_lcm [("part", 7)] (ht hs) (it_tup (pr_var 5)) (fun _ _ _ _ _ => tg_name 7 sc__law_heights.nd) (fun y hy _ _ _ _ _ => pr_dget (hu1 hr) (pr_ownD 1) (pr_var 7) (by
            obtain ⟨v, hv⟩ := dhas_some.mp (ha y hy)
            unfold ht; rw [hv]; rfl)) (small (by omega)) sc__law_heights.nd)) (pr_l (pr_lst Rp.int [0] (par_cons pr_int par_nil))) (bin_cat (by rw [List.length_map, List.length_singleton]; exact small (by omega))))) par_nil) M.max (cb_max rfl m1 m2)) bin_add) ?_ sc__law_heights.nd
        refine ss_dput 1 (d := htVal hs n (1 + mxH hs ps)) (pr_callB (par_cons (pr_var 6) (par_cons (pr_dgetd (hu1 hr) (pr_ownD 1) (pr_var 4) (pr_var 6)) par_nil)) M.min (cb_min2 rfl)) (pr_var 4) (ss_nil (ss_nil ⟨_, _, _, _, I1.step W hm ha, T1.yes I0 I1 hj ha, rfl⟩)) (hu1 hr) ?_
        exact smallL (by omega)
      · refine ss_nil (ss_nil ⟨hs, _, _, _, I1, T1.no hj (fun ha => ?_), rfl⟩)
        rw [List.all_eq_true.mpr ha] at c; cases c
    · rintro _ ⟨hs, a4, a5, a6, I1, T1, rfl⟩
      exact ss_nil ⟨hs, _, _, _, _, _, I1, T1.done I0 I1 c0, rfl⟩
  · rintro _ ⟨hs, a2, a3, a4, a5, a6, I1, c1, rfl⟩
    have hul : (upTo ((g.length : Int) + 1)).length = g.length + 1 := by simp [upTo]
    rw [hul] at c1
    have := I1.len
    have c1 : Closed g hs := by
      rcases c1 with c | c
      · exact c
      · omega
    refine ss_frzD 1 ?_
    exact ss_ret (pr_var 1) fun G v h => ⟨hs, ⟨I1, c1⟩, h⟩
end
end Rw

/-! RwLd: _law_grown -/
namespace Rw
open PySem PyProof.Rows L2
/-! pairs of ints that stand as tuples of their own; sorted -/
def rPS : Rp (Int × Int) := ⟨fun _ G v x => ∃ p, v = .ref p ∧ G p = some (.tup [.int x.1, .int x.2]), fun s ⟨p, e, h⟩ => ⟨p, e, s _ _ h⟩⟩
section
variable {X : Cx} {B : Bs} {es : List Sl} {sts : List Stmt} {O : Out} {e a b : Expr} {pos p p' : Pos} {x : Str}
theorem pr_pairS {i j : Int} {k} (ha : PR X B es a (Rp.int.at i)) (hb : PR X B es b (Rp.int.at j)) (hs : starEach (a :: [b]) X.env = (false, eval a X.env) :: starEach [b] X.env := by rfl) (hs2 : starEach (b :: []) X.env = (false, eval b X.env) :: starEach [] X.env := by rfl) : PR X B es (.Tuple [a, b] k pos) (rPS.at (i, j)) :=
  pr_of (pe_tup (par_cons ha (par_cons hb par_nil hs2) hs)) fun σ G H Q E q => ⟨G, E, fun vs G1 H1 s1 r1 => by
    obtain ⟨v, w, rfl, r, r2⟩ := al2 r1
    have r : v = .int i := r
    have r2 : w = .int j := r2
    subst r; subst r2
    exact ⟨by show 2 ≤ sizeLine; decide, fun p hp => q _ _ _ (s1.trans (Stp.new s1.gh hp _)) ⟨p, rfl, upd_same⟩⟩⟩
theorem ix_PS1 {z : Int × Int} : Ix X (rPS.at z) (Rp.int.at 1) (Rp.int.at z.2) := ⟨_, ix_tup, fun G H u v Q s ⟨p, e, h1⟩ hy q => ⟨p, _, 1, .int z.2, e, hy, SqT.of (s _ _ h1), rfl, q _ G H (Stp.refl s) rfl⟩⟩
def keyV (H : Hp) (v : V) : Int × Int := match v with
  | .ref p => (match H p with
    | some (.tup [.int a, .int b]) => (a, b)
    | _ => (0, 0))
  | _ => (0, 0)
theorem keyV_of {K : PySem.W.Frag} {G H : Hp} {v : V} {x : Int × Int} (s : Same G H) (h : rPS.rel K G v x) : keyV H v = x ∧ ∃ t, v = .ref t ∧ H t = some (.tup [.int x.1, .int x.2]) := by
  obtain ⟨p, rfl, h⟩ := h
  have h := s _ _ h
  refine ⟨?_, p, rfl, h⟩
  unfold keyV
  simp only [h]
def SortOk (xs zs : List (Int × Int)) : Prop := (∀ z ∈ zs, z ∈ xs) ∧ zs.length = xs.length ∧ (∀ z ∈ zs, (gi zs 0).1 ≤ z.1) ∧ ∀ z ∈ xs, z ∈ zs
theorem paired_keys {K : PySem.W.Frag} {G H : Hp} (s : Same G H) {vs : List V} {xs : List (Int × Int)} (h : Paired (rPS.rel K G) vs xs) : xs = vs.map (keyV H) ∧ ∀ v ∈ vs, rPS.rel K G v (keyV H v) := by
  induction h with
  | nil => exact ⟨rfl, fun v h => by cases h⟩
  | cons h _ ih =>
    obtain ⟨e1, _⟩ := keyV_of s h
    refine ⟨by rw [List.map_cons, e1, ← ih.1], fun v hv => ?_⟩
    rcases List.mem_cons.mp hv with e | e
    · rw [e, e1]; exact h
    · exact ih.2 v e
theorem p_map {α : Type} {F : V → α → Prop} {f : V → α} : ∀ {vs : List V}, (∀ v ∈ vs, F v (f v)) → Paired F vs (vs.map f)
  | [], _ => .nil
  | v :: vs, h => .cons (h v (by simp)) (p_map fun u hu => h u (by simp [hu]))
theorem pr_sorted {xs : List (Int × Int)} {p : Pos} (ha : PR X B es e (rL rPS xs)) (hm : X.mg "sorted" = none) (hg : Gl X "sorted" := by rfl) (hn : ("sorted" : Str) ≠ "__name__" := by decide) (he : starEach (e :: []) X.env = (false, eval e X.env) :: starEach [] X.env := by rfl) (hpl : (backTo pos (starEach [] X.env)).any (·.1) = false := by rfl) :
    PR X B es (.Call (.Name "sorted" p) [e] [] pos) (rX rPS.lst (SortOk xs)) :=
  pr_of (pe_callB cr_sortedPO hg hm (by decide +kernel) (par_cons ha par_nil he) hn (by decide) he hpl) fun σ G H Q E q => ⟨G, E, fun vs G1 H1 s1 r1 => by
    obtain ⟨v, rfl, p, us, e, h1, r, z⟩ := al1 r1
    obtain ⟨k1, k2⟩ := paired_keys s1.gh r
    refine ⟨p, us, keyV H1, by rw [e], SqL.of h1, fun u hu => ?_, fun ys l hs hb hl => ?_⟩
    · obtain ⟨_, t, e1, e2⟩ := keyV_of s1.gh (k2 u hu)
      exact ⟨t, e1, e2⟩
    · have hlen : ys.length = us.length := hb.perm.length_eq
      have hlu : us.length = xs.length := r.length
      refine q _ _ _ (s1.trans (Stp.new s1.gh hl _)) ⟨ys.map (keyV H1), ⟨fun z hz => ?_, by rw [List.length_map]; omega, fun z hz => ?_, fun z hz => ?_⟩, l, ys, rfl, upd_same, ?_, by rw [List.length_map]; omega⟩
      · obtain ⟨u, hu, rfl⟩ := List.mem_map.mp hz
        rw [k1]
        exact List.mem_map.mpr ⟨u, hb.perm.mem_iff.mp hu, rfl⟩
      · cases ys with
        | nil => cases hz
        | cons y ys =>
          show (keyV H1 y).1 ≤ z.1
          obtain ⟨u, hu, rfl⟩ := List.mem_map.mp hz
          rcases List.mem_cons.mp hu with c | c
          · rw [c]; exact Int.le_refl _
          · have := SrtO.srtd_head hs u c
            have := SrtO.lexB_no.mp this
            omega
      · rw [k1] at hz
        obtain ⟨u, hu, rfl⟩ := List.mem_map.mp hz
        exact List.mem_map.mpr ⟨u, hb.perm.mem_iff.mpr hu, rfl⟩
      · exact p_map fun u hu => rPS.mono (same_upd _ (s1.gh.free hl)) (k2 u (hb.perm.mem_iff.mp hu))⟩
/-! name in 'abc' -/
theorem cmp_inStr {x y : Str} : Cmp X .In (Rp.str.at x) (Rp.str.at y) (!(Builtin.Str.occurrences y x 0 y.length 1).isEmpty) := ⟨_, op_in_str, Op2.val fun G H u v Q s ⟨hx, _⟩ ⟨hy, _⟩ => ⟨_, rfl, fun q => ⟨x, y, hx, hy, q⟩⟩⟩
end
theorem inAbc {s : Str} (h : isAbc s = true ∨ isName s = true) : (!(Builtin.Str.occurrences "abc" s 0 (Str.ofString "abc").length 1).isEmpty) = isAbc s := by
  rcases h with h | h
  · rw [h]
    rcases isAbc_cases h with e | e | e <;> subst e <;> decide +kernel
  · have h1 : isAbc s = false := by
      cases e : isAbc s with
      | false => rfl
      | true => rcases isAbc_cases e with q | q | q <;> rw [q] at h <;> exact absurd h (by decide +kernel)
    rw [h1]
    cases e : !(Builtin.Str.occurrences "abc" s 0 (Str.ofString "abc").length 1).isEmpty with
    | false => rfl
    | true =>
      exfalso
      obtain ⟨i, h2, h3⟩ := (StrLaws.found_iff _ _).mp e
      obtain ⟨⟨l⟩⟩ := s
      match l, h with
      | c :: r, h =>
        have h : (decide (r.length ≤ 7) && decide (c ∈ capsL) && r.all fun d => decide (d ∈ capsL) || decide (d ∈ figsL)) = true := h
        simp only [Bool.and_eq_true, decide_eq_true_eq] at h
        rw [StrLaws.subAt_eq] at h3
        have h3 := beq_iff_eq.mp h3
        have hc : c ∈ (Str.ofString "abc").cps.toList := by
          have : c ∈ ((Str.ofString "abc").cps.toList.drop i).take (⟨⟨c :: r⟩⟩ : Str).length := by
            rw [h3]; exact List.mem_cons_self
          exact List.mem_of_mem_drop (List.mem_of_mem_take this)
        have e1 : (Str.ofString "abc").cps.toList = [97, 98, 99] := by decide +kernel
        rw [e1] at hc
        have h4 := h.1.2
        unfold capsL at h4
        rw [List.mem_range'] at h4
        obtain ⟨k, hk, e2⟩ := h4
        simp at hc
        omega
structure GP (g : Gram) (hs : Hts) : Prop where
  wf : WF g
  abc : ∀ r ∈ g, ∀ p ∈ r.2, isLetter p = true → isAbc p = true
  ok : HtOk g hs
  all : ∀ r ∈ g, dhas hs r.1 = true
def mu (hs : Hts) (name : Str) (fuel : Int) : Int := if fuel < 1 then ht hs name else 44 + fuel
abbrev GrIn := List Int × Gram × Hts × Str × Int
def GrPre (n : Nat) (i : GrIn) : Prop := GP i.2.1 i.2.2.1 ∧ (isAbc i.2.2.2.1 = true ∨ i.2.2.2.1 ∈ i.2.1.map (·.1)) ∧ mu i.2.2.1 i.2.2.2.1 i.2.2.2.2 ≤ n
section
variable (P : Program) (w : World) (K : PySem.W.Frag) (mg : Str → Option Value) (base : Heap)
abbrev D_grown (n : Nat) := Df P w K mg base CX0 "_law_grown" ["script", "spot", "grammar", "heights", "name", "fuel"] (n + 4) (spM K (ι := GrIn) (fun p i => [.dat Rp.int.scr i.1, .dat (Rp.ref p) (), .dat rGram i.2.1, .dat Rp.int.dct i.2.2.1, .dat Rp.str i.2.2.2.1, .dat Rp.int i.2.2.2.2]) (GrPre n) Rp.tr (fun i t => (isAbc i.2.2.2.1 = false → isLeaf t = false) ∧ depth t ≤ n))
end
theorem no6 {α β γ δ ε ζ ι : Type} {A : ι → Rp α} {f : ι → α} {B : ι → Rp β} {g : ι → β} {C : ι → Rp γ} {h : ι → γ} {D : ι → Rp δ} {k : ι → δ} {E : ι → Rp ε} {l : ι → ε} {F : ι → Rp ζ} {m : ι → ζ} : ∀ i : ι, NoO [Sl.dat (A i) (f i), Sl.dat (B i) (g i), Sl.dat (C i) (h i), Sl.dat (D i) (k i), Sl.dat (E i) (l i), Sl.dat (F i) (m i)] := fun _ => ⟨trivial, trivial, trivial, trivial, trivial, trivial, trivial⟩
/-- the rules that may be taken: found so far -/
structure SmI (g : Gram) (hs : Hts) (name : Str) (i : Nat) (acc : List (Int × Int)) : Prop where
  len : acc.length ≤ i
  ok : ∀ z ∈ acc, 0 ≤ z.2 ∧ z.2 < g.length ∧ (gi g z.2).1 = name ∧ (∀ p ∈ (gi g z.2).2, dhas hs p = true) ∧ z.1 = mxH hs (gi g z.2).2
  all : ∀ (j : Nat) (r : Rule), j < i → g[j]? = some r → r.1 = name → (∀ p ∈ r.2, dhas hs p = true) → ∃ z ∈ acc, z.1 = mxH hs r.2
section
variable {P : Program} {w : World} {K : PySem.W.Frag} {mg : Str → Option Value} {base : Heap}
theorem gr_args {K : PySem.W.Frag} {ns : List Int} {g : Gram} {hs : Hts} {name : Str} {fuel : Int} {n : Nat} {pp : Addr} {φ : Tr → Prop} (hp : GrPre n (ns, g, hs, name, fuel)) (hφ : ∀ t, ((isAbc name = false → isLeaf t = false) ∧ depth t ≤ n) → φ t) (G H : Hp) (vs : List V) (_ : Same G H) (h : Als K G H vs [Rp.int.scr.at ns, (Rp.ref pp).at (), rGram.at g, Rp.int.dct.at hs, Rp.str.at name, Rp.int.at fuel]) :
    ∃ i : GrIn, SlA K G vs [.dat Rp.int.scr i.1, .dat (Rp.ref pp) (), .dat rGram i.2.1, .dat Rp.int.dct i.2.2.1, .dat Rp.str i.2.2.2.1, .dat Rp.int i.2.2.2.2] ∧ GrPre n i ∧ ∀ t, ((isAbc i.2.2.2.1 = false → isLeaf t = false) ∧ depth t ≤ n) → φ t :=
  ⟨(ns, g, hs, name, fuel), als_sl (ss := [.dat Rp.int.scr ns, .dat (Rp.ref pp) (), .dat rGram g, .dat Rp.int.dct hs, .dat Rp.str name, .dat Rp.int fuel]) h, hp, hφ⟩
theorem depthL_le {n : Nat} : ∀ {ts : List Tr}, (∀ t ∈ ts, depth t ≤ n) → depthL ts ≤ n
  | [], _ => by rw [depthL]; exact Nat.zero_le _
  | t :: ts, h => by
    have h1 := h t (by simp)
    have h2 := depthL_le (ts := ts) fun u hu => h u (by simp [hu])
    rw [depthL]; omega
theorem ht_le {g : Gram} {hs : Hts} (I : HtI g hs) (hg : g.length ≤ 40) (p : Str) : 0 ≤ ht hs p ∧ ht hs p ≤ 43 := by
  have := I.len
  unfold ht
  cases e : dget hs p with
  | none => exact ⟨Int.le_refl _, by show (0 : Int) ≤ 43; decide⟩
  | some v => have := I.lo p v e; exact ⟨this.1, by show v ≤ 43; omega⟩
theorem ok_grown (T : Top K mg "_law_grown" st__law_grown ["script", "spot", "grammar", "heights", "name", "fuel"]) (M : Blt mg) (D1 : D_next P w K mg base) : ∀ n, D_grown P w K mg base n := by
  have step : ∀ n, (∀ m, n = m + 1 → D_grown P w K mg base m) → D_grown P w K mg base n := fun n ih => T.df fun f fd F => by
    refine fn_mut F sc__law_grown (fun _ _ => rfl) (fun _ => no6) (fun _ _ => rfl) fun ⟨ns, g, hs, name, fuel⟩ ⟨GP0, hname, hmu⟩ pp cdv Aa outer sh H E B hr => ?_
    have GP0 : GP g hs := GP0
    have hname : isAbc name = true ∨ name ∈ g.map (·.1) := hname
    have hmu : mu hs name fuel ≤ n := hmu
    have W := GP0.wf
    have hl := W.le
    have I := GP0.ok.ti
    show PSl _ _ [.dat Rp.int.scr ns, .own (spotAt pp), .dat rGram g, .dat Rp.int.dct hs, .dat Rp.str name, .dat Rp.int fuel, .un, .un, .un, .un, .un, .un] _ _
    have hin : isAbc name = true ∨ isName name = true := by
      rcases hname with e | e
      · exact .inl e
      · obtain ⟨r, hr, rfl⟩ := List.mem_map.mp e
        exact .inr (W.name r hr)
    refine ss_if2 (pb_eq (pb_cmp (pr_var 4) pr_str cmp_inStr) (inAbc hin)) (fun c => ?_) (fun c => ?_)
    · exact ss_retM 1 (φ := fun t => (isAbc name = false → isLeaf t = false) ∧ depth t ≤ n) (d := .leaf name) (pr_conv (A := Rp.str) (a := name) (pr_var 4) fun _ _ h => leaf_of h) ⟨fun q => (by rw [c] at q; cases q), by rw [depth]; exact Nat.zero_le _⟩ fun _ _ _ h => h
    have hhead : name ∈ g.map (·.1) := by
      rcases hname with e | e
      · rw [e] at c; cases c
      · exact e
    obtain ⟨r0, hr0, rn0⟩ := List.mem_map.mp hhead
    obtain ⟨hh, hget⟩ := dhas_some.mp (GP0.all r0 hr0)
    rw [rn0] at hget
    obtain ⟨hh1, ps0, hps0, hlt0⟩ := I.kn name hh hget c
    have hht : ht hs name = hh := by unfold ht; rw [hget]; rfl
    refine ss_nil ?_
    refine ss_own0 6 rPS ?_ sc__law_grown.nd
    refine ss_for (fun i es => ∃ (acc : List (Int × Int)) (a7 a8 : Sl), SmI g hs name i acc ∧ es = [.dat Rp.int.scr ns, .own (spotAt pp), .dat rGram g, .dat Rp.int.dct hs, .dat Rp.str name, .dat Rp.int fuel, .own (.lst rPS acc), a7, a8, .un, .un, .un])
      (it_enum (pr_var 2) M.enumerate) (tg_pair 7 8 rfl sc__law_grown.nd) ⟨[], .un, .un, ⟨Nat.zero_le _, fun z hz => (by cases hz), fun j r hj => (by omega)⟩, rfl⟩ ?_ ?_ PassesOwn.never rfl
    · rintro B' i ⟨num, r⟩ _ hi ⟨acc, a7, a8, SI, rfl⟩
      obtain ⟨n0, n1, j, ej, hj⟩ := enumI_mem (List.mem_of_getElem? hi)
      have n0 : 0 ≤ num := n0
      have n1 : num < g.length := n1
      have ej : num = (j : Int) := ej
      have hj : g[j]? = some r := hj
      have hij : i = j := by
        have hil := (List.getElem?_eq_some_iff.mp hi).1
        rw [enumI_len] at hil
        have := enumI_get (xs := g) (i := i) (List.getElem?_eq_getElem hil)
        rw [this] at hi
        have h2 := congrArg Prod.fst (Option.some.inj hi)
        have h2 : (i : Int) = num := h2
        omega
      subst hij
      have hgi : gi g num = r := by rw [ej, gi_nat, List.getD, hj]; rfl
      have hm : r ∈ g := List.mem_of_getElem? hj
      have h6 := W.six r hm
      have hil := (List.getElem?_eq_some_iff.mp hj).1
      have hsl := SI.len
      show PSl _ _ [.dat Rp.int.scr ns, .own (spotAt pp), .dat rGram g, .dat Rp.int.dct hs, .dat Rp.str name, .dat Rp.int fuel, .own (.lst rPS acc), .dat Rp.int num, .dat rRule r, .un, .un, .un] _ _
      refine ss_if2 (k := decide (r.1 = name) && r.2.all fun p => dhas hs p) (pb_w (pbw_and (pb_cmp (pr_ix (pr_var 8) pr_int ix_P0) (pr_var 4) cmp_eqS) fun _ => pbw_and1 (pb_val (pr_eq (pr_callB (par_cons (pr_l (pr_lcm [("part", 11)] (fun p => dhas hs p) (it_tup (pr_ix (pr_var 8) pr_int ix_P1)) (fun _ _ _ _ _ => tg_name 11 sc__law_grown.nd) (fun y hy _ _ _ _ _ => pr_din (hu1 hr) (pr_var 11) (pr_d (pr_var 3))) (small (by omega)) sc__law_grown.nd)) par_nil) M.all (cb_all rfl)) (by rw [List.all_map]; rfl))))) (fun cc => ?_) (fun cc => ?_)
      · simp only [Bool.and_eq_true, decide_eq_true_eq, List.all_eq_true] at cc
        obtain ⟨cn, ha⟩ := cc
        obtain ⟨m1, m2⟩ := mx_spec (r.2.map (ht hs))
        refine ss_append 6 (d := (mxH hs r.2, num)) (pr_pairS (pr_callB (par_cons (pr_l (pr_bin (pr_l (pr_lcm [("part", 11)] (ht hs) (it_tup (pr_ix (pr_var 8) pr_int ix_P1)) (fun _ _ _ _ _ => tg_name 11 sc__law_grown.nd) (fun y hy _ _ _ _ _ => pr_dget (hu1 hr) (pr_d (pr_var 3)) (pr_var 11) (by
          obtain ⟨v, hv⟩ := dhas_some.mp (ha y hy)
          unfold ht; rw [hv]; rfl)) (small (by omega)) sc__law_grown.nd)) (pr_l (pr_lst Rp.int [0] (par_cons pr_int par_nil))) (bin_cat (by rw [List.length_map, List.length_singleton]; exact small (by omega))))) par_nil) M.max (cb_max rfl m1 m2)) (pr_var 7)) (ss_nil (ss_nil ⟨acc ++ [(mxH hs r.2, num)], .dat Rp.int num, .dat rRule r, ⟨?_, ?_, ?_⟩, rfl⟩)) ?_
        · rw [List.length_append, List.length_singleton]; omega
        · intro z hz
          rcases List.mem_append.mp hz with q | q
          · exact SI.ok z q
          · simp at q; subst q
            exact ⟨n0, n1, by rw [hgi]; exact cn, by rw [hgi]; exact ha, by rw [hgi]⟩
        · intro k r' hk hkr e1 e2
          by_cases ck : k = i
          · subst ck
            rw [hj] at hkr; cases hkr
            exact ⟨_, List.mem_append_right _ (List.mem_singleton.mpr rfl), rfl⟩
          · obtain ⟨z, hz1, hz2⟩ := SI.all k r' (by omega) hkr e1 e2
            exact ⟨z, List.mem_append_left _ hz1, hz2⟩
        · exact smallL (by omega)
      · refine ss_nil (ss_nil ⟨acc, .dat Rp.int num, .dat rRule r, ⟨by omega, SI.ok, fun k r' hk hkr e1 e2 => ?_⟩, rfl⟩)
        by_cases ck : k = i
        · subst ck
          rw [hj] at hkr; cases hkr
          rw [decide_eq_true e1, List.all_eq_true.mpr e2] at cc; cases cc
        · exact SI.all k r' (by omega) hkr e1 e2
    rintro _ ⟨acc, a7, a8, SI, rfl⟩
    rw [enumI_len] at SI
    have ha0 : ∀ p ∈ ps0, dhas hs p = true := fun p hp => by
      obtain ⟨v, hv, _⟩ := hlt0 p hp
      exact dhas_some.mpr ⟨v, hv⟩
    have hmx0 : mxH hs ps0 < hh := by
      obtain ⟨m1, _⟩ := mx_spec (ps0.map (ht hs))
      show (ps0.map (ht hs)).foldr max 0 < hh
      rcases List.mem_append.mp m1 with q | q
      · obtain ⟨p, hp, e⟩ := List.mem_map.mp q
        obtain ⟨v, hv, hlt⟩ := hlt0 p hp
        rw [← e]
        unfold ht
        rw [hv]; exact hlt
      · have q : (ps0.map (ht hs)).foldr max 0 = 0 := by simpa using q
        rw [q]; omega
    obtain ⟨z0, hz0, ez0⟩ : ∃ z ∈ acc, z.1 = mxH hs ps0 := by
      obtain ⟨j, hj1, hj2⟩ := List.mem_iff_getElem.mp hps0
      exact SI.all j _ hj1 (by rw [List.getElem?_eq_getElem hj1, hj2]) rfl ha0
    refine ss_setE 6 (pr_sorted (pr_own 6) M.sorted) (fun zs hz => ?_) sc__law_grown.nd
    obtain ⟨hz1, hz2, hz3, hz5⟩ := hz
    have hzl : 0 < zs.length := by rw [hz2]; exact List.length_pos_of_mem hz0
    have hz4 : (gi zs 0).1 < hh := by
      have hg0 := gi_mem (l := zs) (i := 0) (by decide) (by omega)
      have hperm : z0 ∈ zs := hz5 z0 hz0
      have := hz3 z0 hperm
      omega
    show PSl _ _ [.dat Rp.int.scr ns, .own (spotAt pp), .dat rGram g, .dat Rp.int.dct hs, .dat Rp.str name, .dat Rp.int fuel, .dat rPS.lst zs, a7, a8, .un, .un, .un] _ _
    refine ss_setM 9 (φ := fun _ : Int => True) (pm_call 1 D1 (hr.mono (by omega)) (par_cons (pr_var 0) (par_cons (pr_spot 1) par_nil)) nx_ok) (fun cell0 _ => ?_) sc__law_grown.nd
    show PSl _ _ [.dat Rp.int.scr ns, .own (spotAt pp), .dat rGram g, .dat Rp.int.dct hs, .dat Rp.str name, .dat Rp.int fuel, .dat rPS.lst zs, a7, a8, .dat Rp.int cell0, .un, .un] _ _
    refine ss_if (fun es => ∃ cell : Int, (fuel < 1 → cell = 0) ∧ es = [.dat Rp.int.scr ns, .own (spotAt pp), .dat rGram g, .dat Rp.int.dct hs, .dat Rp.str name, .dat Rp.int fuel, .dat rPS.lst zs, a7, a8, .dat Rp.int cell, .un, .un])
      (pb_cmp (pr_var 5) pr_int cmp_lt) (fun _ => ss_set 9 pr_int (ss_nil ⟨0, fun _ => rfl, rfl⟩) sc__law_grown.nd) (fun cf => ss_nil ⟨cell0, fun q => absurd q (of_decide_eq_false cf), rfl⟩) ?_
    rintro _ ⟨cell, hcell, rfl⟩
    have hx0 := Int.emod_nonneg cell (show ((zs.length : Nat) : Int) ≠ 0 by omega)
    have hx1 := Int.emod_lt_of_pos cell (show (0 : Int) < ((zs.length : Nat) : Int) by omega)
    refine ss_set 7 (pr_ix (pr_ix (pr_l (pr_var 6)) (pr_bin (pr_var 9) (pr_callB (par_cons (pr_l (pr_var 6)) par_nil) M.len cb_lenL) (bin_mod (by omega))) (ix_L (atI_gi hx0 hx1))) pr_int ix_PS1) ?_ sc__law_grown.nd
    obtain ⟨q0, q1, q2, q3, q4⟩ := SI.ok _ (hz1 _ (gi_mem (l := zs) hx0 hx1))
    have hnm : fuel < 1 → (gi zs (cell % ((zs.length : Nat) : Int))).1 < hh := fun hf => by
      rw [hcell hf]; simpa using hz4
    generalize gi zs (cell % ((zs.length : Nat) : Int)) = zc at q0 q1 q2 q3 q4 hnm
    have hm : gi g zc.2 ∈ g := gi_mem q0 q1
    have h6 := W.six _ hm
    show PSl _ _ [.dat Rp.int.scr ns, .own (spotAt pp), .dat rGram g, .dat Rp.int.dct hs, .dat Rp.str name, .dat Rp.int fuel, .dat rPS.lst zs, .dat Rp.int zc.2, a8, .dat Rp.int cell, .un, .un] _ _
    refine ss_own0 10 Rp.tr ?_ sc__law_grown.nd
    cases n with
    | zero =>
      exfalso
      unfold mu at hmu
      split at hmu <;> omega
    | succ n =>
    have D := ih n rfl
    refine ss_for (fun i es => ∃ (ts : List Tr) (a11 : Sl), ts.length = i ∧ (∀ t ∈ ts, depth t ≤ n) ∧ es = [.dat Rp.int.scr ns, .own (spotAt pp), .dat rGram g, .dat Rp.int.dct hs, .dat Rp.str name, .dat Rp.int fuel, .dat rPS.lst zs, .dat Rp.int zc.2, a8, .dat Rp.int cell, .own (.lst Rp.tr ts), a11])
      (it_tup (pr_ix (pr_ix (pr_l (pr_var 2)) (pr_var 7) (ix_L (atI_gi q0 q1))) pr_int ix_P1)) (tg_name 11 sc__law_grown.nd) ⟨[], .un, rfl, fun t ht => (by cases ht), rfl⟩ ?_ ?_ PassesOwn.never rfl
    · rintro B' i part _ hi ⟨ts, a11, hts, hd, rfl⟩
      show PSl _ _ [.dat Rp.int.scr ns, .own (spotAt pp), .dat rGram g, .dat Rp.int.dct hs, .dat Rp.str name, .dat Rp.int fuel, .dat rPS.lst zs, .dat Rp.int zc.2, a8, .dat Rp.int cell, .own (.lst Rp.tr ts), .dat Rp.str part] _ _
      have hi : (gi g zc.2).2[i]? = some part := hi
      have hil := (List.getElem?_eq_some_iff.mp hi).1
      have hpm : part ∈ (gi g zc.2).2 := List.mem_of_getElem? hi
      have hpk : isAbc part = true ∨ part ∈ g.map (·.1) := by
        rcases W.part _ hm part hpm with e | e
        · exact .inl (GP0.abc _ hm part hpm e)
        · exact .inr e.2
      have hpre : GrPre n (ns, g, hs, part, fuel - 1 - ((ts.length : Nat) : Int)) := by
        refine ⟨GP0, hpk, ?_⟩
        show mu hs part (fuel - 1 - ((ts.length : Nat) : Int)) ≤ n
        have hp43 := ht_le I hl part
        have hpm2 : ht hs part ≤ mxH hs (gi g zc.2).2 := (mxH_le I q3).2.2 part hpm
        unfold mu at hmu ⊢
        by_cases cf : fuel < 1
        · have := hnm cf
          rw [if_pos cf] at hmu
          rw [if_pos (by omega)]
          omega
        · rw [if_neg cf] at hmu
          split <;> omega
      refine ss_appendM 10 (φ := fun t : Tr => depth t ≤ n) (pm_call 1 D hr (par_cons (pr_var 0) (par_cons (pr_spot 1) (par_cons (pr_var 2) (par_cons (pr_var 3) (par_cons (pr_var 11) (par_cons (pr_bin (pr_bin (pr_var 5) pr_int bin_sub) (pr_callB (par_cons (pr_own 10) par_nil) M.len cb_lenL) bin_sub) par_nil)))))) (gr_args hpre fun t ht => ht.2)) (fun t ht => ?_) ?_
      · refine ss_nil ⟨ts ++ [t], .dat Rp.str part, by rw [List.length_append, List.length_singleton, hts], fun u hu => ?_, rfl⟩
        rcases List.mem_append.mp hu with q | q
        · exact hd u q
        · simp at q; rw [q]; exact ht
      · exact smallL (by omega)
    · rintro _ ⟨ts, a11, hts, hd, rfl⟩
      have hts : ts.length = (gi g zc.2).2.length := hts
      refine ss_frzL 10 ?_
      refine ss_retM 1 (φ := fun t => (isAbc name = false → isLeaf t = false) ∧ depth t ≤ n + 1) (d := .node zc.2 ts) (pr_conv (pr_pair (pr_var 7) (pr_callT (par_cons (pr_l (pr_var 10)) par_nil) M.tuple cb_tuple)) fun _ _ h => node_of (by omega) h) ⟨fun _ => rfl, ?_⟩ fun _ _ _ h => h
      rw [depth]
      have := depthL_le hd
      omega
  intro n
  induction n with
  | zero => exact step 0 fun m h => by omega
  | succ n ih => exact step (n + 1) fun m h => by have : m = n := by omega
                                                  subst this; exact ih
end
end Rw

/-! RwLe: the law's own functions on trees -/
namespace Rw
open PySem PySem.Spec PyProof.Rows L2
section
variable {X : Cx} {B : Bs} {es : List Sl} {e a b : Expr} {pos p kpos apos : Pos}
/-! max(xs, default=d) -/
theorem ints_alike (ns : List Int) : PySem.W.AlikeAll (ns.map PyData.int) := by
  refine ⟨fun x hx y hy => ?_, fun x hx => ?_⟩
  · obtain ⟨i, _, rfl⟩ := List.mem_map.mp hx
    obtain ⟨j, _, rfl⟩ := List.mem_map.mp hy
    rfl
  · obtain ⟨i, _, rfl⟩ := List.mem_map.mp hx
    exact fun h => by cases h
theorem ints_depth : ∀ ns : List Int, PyData.depthAll (ns.map PyData.int) = 0
  | [] => rfl
  | n :: ns => by rw [List.map_cons, PyData.depthAll, ints_depth ns]; rfl
theorem ints_dp {K : PySem.W.Frag} {H : Hp} : ∀ ns : List Int, DpAll K H (ns.map V.int) (ns.map PyData.int)
  | [] => .nil
  | n :: ns => .cons (.int n) (ints_dp ns)
def rMaxD (K : PySem.W.Frag) : List V → List V → Hp → VK → Prop := fun vs zs H Q => ∃ (a : Addr) (ns : List Int) (d m : Int), vs = [V.ref a] ∧ zs = [V.int d] ∧ SqL K H a (ns.map V.int) ∧ (ns = [] → d = m) ∧ (∀ y ys, ns = y :: ys → ys.foldl max y = m) ∧ Q (.int m) H
theorem cr_maxD (hc : X.calm = true) (hu : X.A.units + 1 < cLine) : CallRK X (.builtin "max") ["default"] (rMaxD X.K) := by
  intro pins s σ H vs zs us ws Q I r r2 h
  obtain ⟨a, ns, d, m, rfl, rfl, hs, h0, h1, q⟩ := h
  obtain ⟨its, rv, hl, _⟩ := I.list hs
  rw [Vals.ref1 r]
  obtain ⟨w, rfl, t, rfl⟩ := vals1 r2
  obtain ⟨as, hr⟩ := Dp.readsAll I (ns.map PyData.int) _ its (ints_dp ns) rv
  refine PySem.W.max_list_default (xs := ns.map PyData.int) (vs := its.toArray) (I.ok.hd hc) hl.isList hr (ints_alike ns) (by rw [ints_depth]; omega) (fun e h' tk k => ?_) (fun y ys i v h' tk bs e _ rd k => ?_)
  · have e : ns = [] := by simpa using e
    exact ⟨.int m, H, I.kept k, ⟨t, by rw [h0 e]⟩, q⟩
  · cases ns with
    | nil => cases e
    | cons n ns =>
      rw [List.map_cons] at e
      injection e with e1 e2
      subst e1; subst e2
      rw [PySem.W.maxD_ints, h1 n ns rfl] at rd
      cases rd
      exact ⟨.int m, H, I.kept k, ⟨_, rfl⟩, q⟩
theorem pr_maxd {ns : List Int} {d m : Int} (ha : PR X B es a (rL Rp.int ns)) (hb : PR X B es b (Rp.int.at d)) (h0 : ns = [] → d = m) (h1 : ∀ y ys, ns = y :: ys → ys.foldl max y = m) (hu : X.A.units + 1 < cLine) (hm : X.mg "max" = none) (hc : X.calm = true := by rfl) (hg : Gl X "max" := by rfl)
    (hn : ("max" : Str) ≠ "__name__" := by decide) (he : backTo pos (starEach (a :: []) X.env) = (false, eval a X.env) :: backTo pos (starEach [] X.env) := by rfl) (hpl : (backTo pos (starEach (a :: []) X.env)).any (·.1) = false := by rfl)
    (hall : (backToKw pos (keywordEach [⟨some "default", b, kpos⟩] X.env)).all (·.1.isSome) = true := by rfl) (hnone : (backToKw pos (keywordEach [⟨some "default", b, kpos⟩] X.env)).any (·.1.isNone) = false := by rfl) (hks : (backToKw pos (keywordEach [⟨some "default", b, kpos⟩] X.env)).filterMap (·.1) = (["default"] : List Str) := by rfl)
    (hs : starEach (a :: []) X.env = (false, eval a X.env) :: starEach [] X.env := by rfl) :
    PR X B es (.Call (.Name "max" p) [a] [⟨some "default", b, kpos⟩] pos) (Rp.int.at m) :=
  pr_of (pe_callBK (cr_maxD hc hu) hg hm (by decide +kernel) (par_cons ha par_nil hs) (pk_cons hb pk_nil) hn (by decide) he hpl hall hnone hks) fun σ G H Q E q => ⟨G, E, fun vs G1 H1 s1 r1 => ⟨G1, E.step s1, fun z G2 H2 s2 rz => by
    obtain ⟨v, rfl, p, us, e, h2, r, zz⟩ := al1 (al_mono s2 r1)
    have ev := ints_of r
    subst ev
    have rz : z = .int d := rz
    subst rz
    exact ⟨p, ns, d, m, by rw [e], rfl, SqL.of h2, h0, h1, q _ _ _ (s1.trans s2) rfl⟩⟩⟩
/-! ''.join(xs) -/
theorem join_cps : ∀ ys : List Str, (Txt.join "" ys).cps.toList = ys.flatMap fun y => y.cps.toList := by
  intro ys
  show (Builtin.Str.glued "" ys).cps.toList = _
  rw [StrLaws.glued_eq_join]
  induction ys with
  | nil => rfl
  | cons x ys ih =>
    cases ys with
    | nil => simp [Str.join]
    | cons y r =>
      show (x ++ "" ++ Str.join "" (y :: r)).cps.toList = _
      show ((x.cps ++ #[]) ++ (Str.join "" (y :: r)).cps).toList = _
      rw [Array.toList_append, Array.toList_append, ih]
      simp
theorem pr_join {ys : List Str} {z : Str} (ha : PR X B es a (rL Rp.str ys)) (hz : z.cps.toList = ys.flatMap fun y => y.cps.toList) (ok : SOk z) (hl : (ys.map (·.length)).sum ≤ 16777216) {j : _} {p1 : Pos}
    (hs : starEach [a] X.env = [(false, eval a X.env)] := by rfl) (hbase : attributeBase (.Constant (.str "") j p1) "join" X.env (eval (.Constant (.str "") j p1) X.env) = eval (.Constant (.str "") j p1) X.env := by rfl) (hline : (apos.endLine == pos.line) = true := by rfl) :
    PR X B es (.Call (.Attribute (.Constant (.str "") j p1) "join" apos) [a] [] pos) (Rp.str.at z) :=
  pr_of (pe_m1 F.slot_str_join F.type_str_join mt_join pe_str ha hs hbase hline) fun σ G H Q E q => ⟨⟨_, rfl⟩, G, E, fun u G2 H2 s2 ⟨p, vs, e, h, r, zz⟩ => by
    have ev := strs_of r
    subst ev
    have ej : Txt.join "" ys = z := by
      have := join_cps ys
      rw [← hz] at this
      have e2 : (Txt.join "" ys).cps = z.cps := Array.ext' this
      cases h1 : Txt.join "" ys
      cases z
      rw [h1] at e2
      exact congrArg Str.mk e2
    refine ⟨"", p, ys, rfl, by rw [e], .inl (SqL.of h), by rw [show ("" : Str).length = 0 from rfl]; omega, ?_⟩
    rw [ej]
    exact q _ G2 H2 s2 ⟨rfl, ok⟩⟩
end
end Rw

/-! RwLf: _law_letters, _law_is_whole, _law_fits, _law_depth, _law_is_small -/
namespace Rw
open PySem PyProof.Rows L2
theorem sok_list {l : List Nat} : SOk ⟨l.toArray⟩ ↔ l.length ≤ strMax ∧ ∀ c ∈ l, c < 0x110000 := by
  unfold SOk
  have e : (PyData.strOk ⟨l.toArray⟩ = true) ↔ ∀ c ∈ l, c < 0x110000 := by
    show (l.toArray.all (· < 0x110000)) = true ↔ _
    rw [← Array.all_toList, List.all_eq_true]
    simp
  rw [e]
  exact Iff.rfl
abbrev letS (t : Tr) : Str := ⟨(lets t).toArray⟩
theorem lets_sub {ts : List Tr} {t : Tr} (h : t ∈ ts) : (lets t).length ≤ (letsL ts).length ∧ ∀ c ∈ lets t, c ∈ letsL ts := by
  induction ts with
  | nil => cases h
  | cons x ts ih =>
    rw [letsL, List.length_append]
    rcases List.mem_cons.mp h with e | e
    · subst e; exact ⟨by omega, fun c hc => List.mem_append_left _ hc⟩
    · obtain ⟨h1, h2⟩ := ih e
      exact ⟨by omega, fun c hc => List.mem_append_right _ (h2 c hc)⟩
theorem sok_child {n : Int} {ts : List Tr} {t : Tr} (h : SOk (letS (.node n ts))) (ht : t ∈ ts) : SOk (letS t) := by
  have h := sok_list.mp h
  rw [lets] at h
  obtain ⟨h1, h2⟩ := lets_sub ht
  exact sok_list.mpr ⟨Nat.le_trans h1 h.1, fun c hc => h.2 c (h2 c hc)⟩
theorem letsL_fm : ∀ ts : List Tr, letsL ts = (ts.map letS).flatMap fun y => y.cps.toList
  | [] => rfl
  | t :: ts => by
    rw [letsL, List.map_cons, List.flatMap_cons, letsL_fm ts]
theorem sum_letS : ∀ ts : List Tr, ((ts.map letS).map (·.length)).sum = (letsL ts).length
  | [] => rfl
  | t :: ts => by
    rw [List.map_cons, List.map_cons, List.sum_cons, sum_letS ts, letsL, List.length_append]; rfl
section
variable (P : Program) (w : World) (K : PySem.W.Frag) (mg : Str → Option Value) (base : Heap)
abbrev D_whole_i := Df P w K mg base CX0 "_law_is_whole" ["number"] 1 (spI K (ι := Int) (fun i => [.dat Rp.int i]) (fun _ => True) Rp.bl (fun _ => true))
def isWhole (pl : Place) : Bool := match pl with
  | .inl _ => true
  | .inr _ => false
abbrev D_whole_p := Df P w K mg base CX0 "_law_is_whole" ["number"] 1 (spI K (ι := Place) (fun i => [.dat rPlace i]) (fun pl => ∀ t, pl = .inr t → isLeaf t = false) Rp.bl isWhole)
abbrev D_law_fits (n : Nat) := Df P w K mg base CX0 "_law_fits" ["grammar", "part", "tree"] (n + 2) (spI K (ι := Gram × Str × Tr) (fun i => [.dat rGram i.1, .dat Rp.str i.2.1, .dat Rp.tr i.2.2]) (fun i => Sm i.1 ∧ depth i.2.2 ≤ n ∧ (∀ r ∈ i.1, ∀ p ∈ r.2, isLetter p = true → isAbc p = true) ∧ (isLetter i.2.1 = true → isAbc i.2.1 = true)) Rp.bl (fun i => fitsB i.1 i.2.1 i.2.2))
abbrev D_small (n : Nat) := Df P w K mg base CX0 "_law_is_small" ["tree"] (n + 2) (spI K (ι := Tr) (fun t => [.dat Rp.tr t]) (fun t => depth t ≤ n) Rp.bl isSmall)
end
section
variable {X : Cx}
theorem cb_isIntI {i : Int} : Cb X (.builtin "isinstance") [Rp.int.at i, rTy "int"] (Rp.bl.at true) := cb_isi (t := "int") (k := true) (fun G H v s r => ty_int (x := i) (G := G) r) (by decide +kernel)
theorem cb_isIntB {i : Int} : Cb X (.builtin "isinstance") [Rp.int.at i, rTy "bool"] (Rp.bl.at false) := cb_isi (t := "int") (k := false) (fun G H v s r => ty_int (x := i) (G := G) r) (by decide +kernel)
theorem cb_isPlI {pl : Place} (h : ∀ t, pl = .inr t → isLeaf t = false) : Cb X (.builtin "isinstance") [rPlace.at pl, rTy "int"] (Rp.bl.at (isWhole pl)) := by
  cases pl with
  | inl k => exact cb_isi (t := "int") (k := true) (fun G H v s r => ty_int (x := k) (G := G) r) (by decide +kernel)
  | inr t => exact cb_isi (t := "tuple") (k := false) (fun G H v s r => by
      have := ty_tr (t := t) s r
      rw [h t rfl] at this
      exact this) (by decide +kernel)
theorem cb_isPlB {pl : Place} (h : ∀ t, pl = .inr t → isLeaf t = false) : Cb X (.builtin "isinstance") [rPlace.at pl, rTy "bool"] (Rp.bl.at false) := by
  cases pl with
  | inl k => exact cb_isi (t := "int") (k := false) (fun G H v s r => ty_int (x := k) (G := G) r) (by decide +kernel)
  | inr t => exact cb_isi (t := "tuple") (k := false) (fun G H v s r => by
      have := ty_tr (t := t) s r
      rw [h t rfl] at this
      exact this) (by decide +kernel)
theorem cb_isTupT {α : Type} {A : Rp α} {x : List α} : Cb X (.builtin "isinstance") [A.tup.at x, rTy "tuple"] (Rp.bl.at true) := cb_isi (t := "tuple") (k := true) (fun G H v s r => ty_tup s r) (by decide +kernel)
theorem cb_isTupN {α β : Type} {A : Rp α} {C : Rp β} {x : α × β} : Cb X (.builtin "isinstance") [(A.pair C).at x, rTy "tuple"] (Rp.bl.at true) := cb_isi (t := "tuple") (k := true) (fun G H v s r => ty_pair s r) (by decide +kernel)
end
section
variable {P : Program} {w : World} {K : PySem.W.Frag} {mg : Str → Option Value} {base : Heap}
theorem ok_whole_i (T : Top K mg "_law_is_whole" st__law_is_whole ["number"]) (M : Blt mg) : D_whole_i P w K mg base := T.df fun f fd F => by
  refine fn_pure F sc__law_is_whole (fun _ => rfl) no1 fun i _ cdv Aa outer sh H E B hr => ?_
  show PSl _ _ [.dat Rp.int i] _ _
  exact ss_ret (A := Rp.bl) (d := true) (pr_and (k := true) (l := true) (pr_callB (par_cons (pr_var 0) (par_cons (pr_ty M.int) par_nil)) M.isinstance cb_isIntI) fun _ => pr_one (pr_not (k := false) (pr_callB (par_cons (pr_var 0) (par_cons (pr_ty M.bool) par_nil)) M.isinstance cb_isIntB))) fun _ _ h => h
theorem ok_whole_p (T : Top K mg "_law_is_whole" st__law_is_whole ["number"]) (M : Blt mg) : D_whole_p P w K mg base := T.df fun f fd F => by
  refine fn_pure F sc__law_is_whole (fun _ => rfl) no1 fun pl hp cdv Aa outer sh H E B hr => ?_
  show PSl _ _ [.dat rPlace pl] _ _
  exact ss_ret (A := Rp.bl) (d := isWhole pl) (pr_eq (pr_and (l := true) (pr_callB (par_cons (pr_var 0) (par_cons (pr_ty M.int) par_nil)) M.isinstance (cb_isPlI hp)) fun _ => pr_one (pr_not (k := false) (pr_callB (par_cons (pr_var 0) (par_cons (pr_ty M.bool) par_nil)) M.isinstance (cb_isPlB hp)))) (Bool.and_true _)) fun _ _ h => h
theorem ok__law_letters (T : Top K mg "_law_letters" st__law_letters ["tree"]) (M : Blt mg) : ∀ n, D_letters P w K mg base n := by
  have step : ∀ n, (∀ m, n = m + 1 → D_letters P w K mg base m) → D_letters P w K mg base n := fun n ih => T.df fun f fd F => by
    refine fn_pure F sc__law_letters (fun _ => rfl) no1 fun t ⟨hd, ok⟩ cdv Aa outer sh H E B hr => ?_
    show PSl _ _ [.dat Rp.tr t, .un] _ _
    have hd : depth t ≤ n := hd
    have ok : SOk (letS t) := ok
    refine ss_if2 (pb_val (pr_callB (par_cons (pr_var 0) (par_cons (pr_ty M.str) par_nil)) M.isinstance cb_isStr)) (fun c => ?_) (fun c => ?_)
    · cases t with
      | node _ _ => cases c
      | leaf s =>
        refine ss_ret (pr_var 0) fun G v h => ?_
        show Rp.str.rel K G v (letS (.leaf s))
        have e : letS (.leaf s) = s := by show (⟨s.cps.toList.toArray⟩ : Str) = s; rw [Array.toArray_toList]
        rw [e]; exact of_leaf h
    · cases t with
      | leaf _ => cases c
      | node k ts =>
        refine ss_nil ?_
        cases n with
        | zero => simp only [depth] at hd; omega
        | succ n =>
        have D := ih n rfl
        refine ss_lenTr 0 fun hlen => ?_
        refine ss_conv 0 (fun _ _ h => of_node h) ?_
        have hk : ∀ t' ∈ ts, depth t' ≤ n := fun t' ht => by
          have := depth_le ht
          rw [depth] at hd; omega
        refine ss_ret (A := Rp.str) (d := letS (.node k ts)) (pr_join (pr_l (pr_lcm [("one", 1)] letS (it_tup (pr_ix (pr_var 0) pr_int ix_P1)) (fun _ _ _ _ _ => tg_name 1 sc__law_letters.nd)
          (fun y hy _ _ _ _ _ => pr_call D hr y (par_cons (pr_var 1) par_nil) ⟨hk y hy, sok_child ok hy⟩) (len6 hlen) sc__law_letters.nd)) ?_ ok ?_) fun _ _ h => h
        · show lets (.node k ts) = _
          rw [lets, letsL_fm]
        · have h1 := (sok_list.mp ok).1
          rw [lets] at h1
          have h2 := sum_letS ts
          rw [h2]
          unfold strMax at h1
          omega
  intro n
  induction n with
  | zero => exact step 0 fun m h => by omega
  | succ n ih => exact step (n + 1) fun m h => by have : m = n := by omega
                                                  subst this; exact ih
theorem ok__law_fits (T : Top K mg "_law_fits" st__law_fits ["grammar", "part", "tree"]) (M : Blt mg) (DW : D_whole_i P w K mg base) : ∀ n, D_law_fits P w K mg base n := by
  have step : ∀ n, (∀ m, n = m + 1 → D_law_fits P w K mg base m) → D_law_fits P w K mg base n := fun n ih => T.df fun f fd F => by
    refine fn_pure F sc__law_fits (fun _ => rfl) no3 fun ⟨g, part, t⟩ ⟨S, hd, habc, hpa⟩ cdv Aa outer sh H E B hr => ?_
    show PSl _ _ [.dat rGram g, .dat Rp.str part, .dat Rp.tr t, .un, .un] _ _
    have S : Sm g := S
    have hl := S.len
    have hd : depth t ≤ n := hd
    have habc : ∀ r ∈ g, ∀ p ∈ r.2, isLetter p = true → isAbc p = true := habc
    have hpa : isLetter part = true → isAbc part = true := hpa
    refine ss_if2 (pb_val (pr_callB (par_cons (pr_var 2) (par_cons (pr_ty M.str) par_nil)) M.isinstance cb_isStr)) (fun c => ?_) (fun c => ?_)
    · cases t with
      | node _ _ => cases c
      | leaf s =>
        refine ss_conv 2 (fun _ _ h => of_leaf h) ?_
        refine ss_ret (A := Rp.bl) (d := fitsB g part (.leaf s)) (pr_eq (pr_and (l := decide (s ∈ (["a", "b", "c"] : List Str))) (pr_cmp (pr_var 2) (pr_var 1) cmp_eqS) fun _ => pr_one (pr_cmp (pr_var 2) (pr_l (pr_lst Rp.str ["a", "b", "c"] (par_cons pr_str (par_cons pr_str (par_cons pr_str par_nil))))) cmp_inL)) ?_) fun _ _ h => h
        rw [fitsB]
        by_cases e : s = part
        · subst e
          have e1 : decide (s ∈ (["a", "b", "c"] : List Str)) = isAbc s := by rw [Bool.eq_iff_iff, decide_eq_true_eq]; exact mem_abcL
          have e2 : isAbc s = isLetter s := by
            rw [Bool.eq_iff_iff]; exact ⟨abc_letter s, hpa⟩
          rw [e1, e2]
        · rw [decide_eq_false e]; rfl
    · cases t with
      | leaf _ => cases c
      | node k ts =>
        refine ss_nil ?_
        cases n with
        | zero => simp only [depth] at hd; omega
        | succ n =>
        have D := ih n rfl
        refine ss_lenTr 2 fun hlen => ?_
        refine ss_conv 2 (fun _ _ h => of_node h) ?_
        have hk : ∀ t' ∈ ts, depth t' ≤ n := fun t' ht => by
          have := depth_le ht
          rw [depth] at hd; omega
        show PSl _ _ [.dat rGram g, .dat Rp.str part, .dat rNode (k, ts), .un, .un] _ _
        refine ss_ifF (pb_w (pbw_or (k := false) (pb_not (k := true) (pb_val (pr_callB (par_cons (pr_var 2) (par_cons (pr_ty M.tuple) par_nil)) M.isinstance cb_isTupN))) fun _ => pbw_or (k := false) (pb_eq (pb_cmp (pr_callB (par_cons (pr_var 2) par_nil) M.len cb_lenP) pr_int cmp_neI) (by decide)) fun _ => pbw_or1 (pb_not (k := true) (pb_val (pr_callB (par_cons (pr_ix (pr_var 2) pr_int ix_P1) (par_cons (pr_ty M.tuple) par_nil)) M.isinstance cb_isTupT))))) rfl (ss_nil ?_)
        refine ss_ifF (pb_not (k := true) (pb_val (pr_call DW (hr.mono (by omega)) k (par_cons (pr_ix (pr_var 2) pr_int ix_P0) par_nil) trivial))) rfl (ss_nil ?_)
        refine ss_if2 (k := !(decide (0 ≤ k) && decide (k < g.length)) || !decide ((gi g k).1 = part)) (pb_w (pbw_or (pb_not (pb_chain pr_int (pr_ix (pr_var 2) pr_int ix_P0) (pr_callB (par_cons (pr_l (pr_var 0)) par_nil) M.len cb_lenL) cmp_le cmp_lt)) fun hf => pbw_or1 (pb_cmp (pr_ix (pr_ix (pr_l (pr_var 0)) (pr_ix (pr_var 2) pr_int ix_P0) (ix_L (atI_gi ?_ ?_))) pr_int ix_P0) (pr_var 1) cmp_neS))) (fun cc => ?_) (fun cc => ?_)
        · rw [Bool.not_eq_false', Bool.and_eq_true] at hf; exact of_decide_eq_true hf.1
        · rw [Bool.not_eq_false', Bool.and_eq_true] at hf; exact of_decide_eq_true hf.2
        · refine ss_ret pr_bl fun G v h => ?_
          have : fitsB g part (.node k ts) = false := by
            rw [fitsB]
            rw [Bool.or_eq_true, Bool.not_eq_true', Bool.not_eq_true'] at cc
            rcases cc with cc | cc
            · rw [cc]; rfl
            · rw [cc]; simp
          show Rp.bl.rel K G v (fitsB g part (.node k ts))
          rw [this]; exact h
        · rw [Bool.or_eq_false_iff, Bool.not_eq_false', Bool.not_eq_false', Bool.and_eq_true] at cc
          obtain ⟨⟨c1, c2⟩, c3⟩ := cc
          have h1 : 0 ≤ k := of_decide_eq_true c1
          have h2 : k < g.length := of_decide_eq_true c2
          have hm := gi_mem h1 h2
          have hp := S.parts _ hm
          have e0 : fitsB g part (.node k ts) = fitsL g (gi g k).2 ts := by
            rw [fitsB, c1, c2, c3]; rfl
          refine ss_nil ?_
          refine ss_set 3 (pr_ix (pr_ix (pr_l (pr_var 0)) (pr_ix (pr_var 2) pr_int ix_P0) (ix_L (atI_gi h1 h2))) pr_int ix_P1) ?_ sc__law_fits.nd
          show PSl _ _ [.dat rGram g, .dat Rp.str part, .dat rNode (k, ts), .dat Rp.str.tup (gi g k).2, .un] _ _
          refine ss_if2 (pb_cmp (pr_callB (par_cons (pr_var 3) par_nil) M.len cb_lenT) (pr_callB (par_cons (pr_ix (pr_var 2) pr_int ix_P1) par_nil) M.len cb_lenT) cmp_neI) (fun c => ?_) (fun c => ?_)
          · refine ss_ret pr_bl fun G v h => ?_
            have : fitsL g (gi g k).2 ts = false := by
              cases e : fitsL g (gi g k).2 ts with
              | false => rfl
              | true => have := fitsL_len e; simp [this] at c
            show Rp.bl.rel K G v (fitsB g part (.node k ts))
            rw [e0, this]; exact h
          · have c : (gi g k).2.length = ts.length := by simp at c; omega
            refine ss_nil ?_
            refine ss_ret (A := Rp.bl) (d := fitsB g part (.node k ts)) (pr_eq (pr_callB (par_cons (pr_l (pr_lcm [("k", 4)] (fun j => fitsB g (gi (gi g k).2 j) (gi ts j)) (it_range (pr_callB (par_cons (pr_var 3) par_nil) M.len cb_lenT) (by omega) (by omega) M.range) (fun _ _ _ _ _ => tg_name 4 sc__law_fits.nd)
              (fun y hy _ _ _ _ _ => ?_) (by rw [upTo_len]; exact small (by omega)) sc__law_fits.nd)) par_nil) M.all (cb_all rfl)) (by rw [fitsL_all g _ _ c, e0])) fun _ _ h => h
            have hy := upTo_mem hy
            exact pr_call D hr (g, gi (gi g k).2 y, gi ts y) (par_cons (pr_var 0) (par_cons (pr_ix (pr_var 3) (pr_var 4) (ix_T (atI_gi hy.1 hy.2))) (par_cons (pr_ix (pr_ix (pr_var 2) pr_int ix_P1) (pr_var 4) (ix_T (atI_gi hy.1 (show y < ((ts.length : Nat) : Int) by omega)))) par_nil))) ⟨S, hk _ (gi_mem hy.1 (by omega)), habc, habc _ hm _ (gi_mem hy.1 hy.2)⟩
  intro n
  induction n with
  | zero => exact step 0 fun m h => by omega
  | succ n ih => exact step (n + 1) fun m h => by have : m = n := by omega
                                                  subst this; exact ih
theorem max_depth : ∀ (ts : List Tr) (a : Int), 0 ≤ a → (ts.map fun t => (depth t : Int)).foldl max a = max a (depthL ts : Int)
  | [], a, h => by rw [depthL]; show a = max a 0; omega
  | t :: ts, a, h => by
    rw [List.map_cons, List.foldl_cons, max_depth ts _ (by omega), depthL]
    omega
theorem ok__law_depth (T : Top K mg "_law_depth" st__law_depth ["tree"]) (M : Blt mg) : ∀ n, D_depth P w K mg base "_law_depth" n := by
  have step : ∀ n, (∀ m, n = m + 1 → D_depth P w K mg base "_law_depth" m) → D_depth P w K mg base "_law_depth" n := fun n ih => T.df fun f fd F => by
    refine fn_pure F sc__law_depth (fun _ => rfl) no1 fun t hd cdv Aa outer sh H E B hr => ?_
    show PSl _ _ [.dat Rp.tr t, .un] _ _
    refine ss_if2 (pb_val (pr_callB (par_cons (pr_var 0) (par_cons (pr_ty M.str) par_nil)) M.isinstance cb_isStr)) (fun c => ?_) (fun c => ?_)
    · cases t with
      | node _ _ => cases c
      | leaf s => exact ss_ret pr_int fun _ _ h => h
    · cases t with
      | leaf _ => cases c
      | node k ts =>
        refine ss_nil ?_
        cases n with
        | zero => simp only [depth] at hd; omega
        | succ n =>
        have D := ih n rfl
        refine ss_lenTr 0 fun hlen => ?_
        refine ss_conv 0 (fun _ _ h => of_node h) ?_
        have hk : ∀ t' ∈ ts, depth t' ≤ n := fun t' ht => by
          have := depth_le ht
          rw [depth] at hd; omega
        refine ss_ret (A := Rp.int) (d := ((depth (.node k ts) : Nat) : Int)) (pr_eq (pr_bin pr_int (pr_maxd (m := (depthL ts : Int)) (pr_l (pr_lcm [("one", 1)] (fun t => ((depth t : Nat) : Int)) (it_tup (pr_ix (pr_var 0) pr_int ix_P1)) (fun _ _ _ _ _ => tg_name 1 sc__law_depth.nd) (fun y hy _ _ _ _ _ => pr_call D hr y (par_cons (pr_var 1) par_nil) (hk y hy)) (len6 hlen) sc__law_depth.nd)) pr_int (fun e => ?_) (fun y ys e => ?_) (hu1 hr) M.max) bin_add) (by rw [depth]; omega)) fun _ _ h => h
        · have : ts = [] := by simpa using e
          subst this; rfl
        · cases ts with
          | nil => cases e
          | cons t ts =>
            rw [List.map_cons] at e
            injection e with e1 e2
            subst e1; subst e2
            rw [max_depth _ _ (by omega), depthL]; omega
  intro n
  induction n with
  | zero => exact step 0 fun m h => by omega
  | succ n ih => exact step (n + 1) fun m h => by have : m = n := by omega
                                                  subst this; exact ih
theorem ok__law_is_small (T : Top K mg "_law_is_small" st__law_is_small ["tree"]) (n : Nat) (D2 : D_count P w K mg base "_law_count" n) (D3 : D_depth P w K mg base "_law_depth" n) : D_small P w K mg base n := T.df fun f fd F => by
  refine fn_pure F sc__law_is_small (fun _ => rfl) no1 fun t hd cdv Aa outer sh H E B hr => ?_
  show PSl _ _ [.dat Rp.tr t] _ _
  refine ss_ret (A := Rp.bl) (d := isSmall t) (pr_eq (pr_and (pr_cmp (pr_call D2 hr t (par_cons (pr_var 0) par_nil) hd) pr_int cmp_le) fun _ => pr_one (pr_cmp (pr_call D3 hr t (par_cons (pr_var 0) par_nil) hd) pr_int cmp_le)) ?_) fun _ _ h => h
  unfold isSmall
  have : decide (((depth t : Nat) : Int) ≤ 40) = decide (depth t ≤ 40) := by
    rw [Bool.eq_iff_iff, decide_eq_true_eq, decide_eq_true_eq]; omega
  rw [this]
end
end Rw

/-! RwLg: _law_joined -/
namespace Rw
open PySem PyProof.Rows L2
abbrev KW := List (Str × List Str)
def someOf (kw : KW) (part : Str) : List Str := (dget kw part).getD [part]
def addW (acc : List Str) (w : Str) : List Str := if w ∈ acc then acc else acc ++ [w]
def joinMore (most : Int) (t : Str) (acc : List Str) (m : Str) : List Str := if decide (((t.length : Nat) : Int) + ((m.length : Nat) : Int) ≤ most) then addW acc (t ++ m) else acc
def joinStep (kw : KW) (most : Int) (found : List Str) (part : Str) : List Str := found.foldl (fun acc t => (someOf kw part).foldl (joinMore most t) acc) []
def joined (kw : KW) (most : Int) (parts : List Str) : List Str := parts.foldl (joinStep kw most) [""]
/-- words of at most two signs out of abc -/
def okW (w : Str) : Prop := w.length ≤ 2 ∧ ∀ c ∈ w.cps.toList, 97 ≤ c ∧ c ≤ 99
def w2 : List Str := ["", "a", "b", "c", "aa", "ab", "ac", "ba", "bb", "bc", "ca", "cb", "cc"]
theorem okW_mem {w : Str} (h : okW w) : w ∈ w2 := by
  obtain ⟨h1, h2⟩ := h
  obtain ⟨⟨l⟩⟩ := w
  have h1 : l.length ≤ 2 := h1
  have h2 : ∀ c ∈ l, 97 ≤ c ∧ c ≤ 99 := h2
  have c3 : ∀ c, 97 ≤ c ∧ c ≤ 99 → c = 97 ∨ c = 98 ∨ c = 99 := fun c h => by omega
  match l, h1, h2 with
  | [], _, _ => decide +kernel
  | [a], _, h2 =>
    rcases c3 a (h2 a (by simp)) with e | e | e <;> subst e <;> decide +kernel
  | [a, b], _, h2 =>
    rcases c3 a (h2 a (by simp)) with e | e | e <;> rcases c3 b (h2 b (by simp)) with f | f | f <;> subst e <;> subst f <;> decide +kernel
theorem okW_len {l : List Str} (nd : l.Nodup) (h : ∀ w ∈ l, okW w) : l.length ≤ 13 := nodup_le (m := w2) nd fun w hw => okW_mem (h w hw)
theorem okW_sok {w : Str} (h : okW w) : SOk w := by
  obtain ⟨⟨l⟩⟩ := w
  refine sok_list.mpr ⟨?_, fun c hc => ?_⟩
  · have : l.length ≤ 2 := h.1
    unfold strMax; omega
  · have := h.2 c hc; omega
structure WordsOk (l : List Str) : Prop where
  nd : l.Nodup
  ok : ∀ w ∈ l, okW w
theorem addW_spec {acc : List Str} {w : Str} (h : WordsOk acc) (hw : okW w) : WordsOk (addW acc w) ∧ ∀ v, v ∈ addW acc w ↔ v ∈ acc ∨ v = w := by
  unfold addW
  by_cases c : w ∈ acc
  · rw [if_pos c]
    exact ⟨h, fun v => ⟨.inl, fun q => q.elim id fun e => e ▸ c⟩⟩
  · rw [if_neg c]
    refine ⟨⟨?_, fun v hv => ?_⟩, fun v => by simp⟩
    · rw [List.nodup_append]
      exact ⟨h.nd, by simp, fun a ha b hb => by simp at hb; subst hb; exact fun e => c (e ▸ ha)⟩
    · rcases List.mem_append.mp hv with e | e
      · exact h.ok v e
      · simp at e; rw [e]; exact hw
theorem okW_app {t m : Str} (ht : okW t) (hm : okW m) (h : ((t.length : Nat) : Int) + ((m.length : Nat) : Int) ≤ 2) : okW (t ++ m) := by
  refine ⟨by rw [len_append]; omega, fun c hc => ?_⟩
  have hc : c ∈ (t.cps ++ m.cps).toList := hc
  rw [Array.toList_append] at hc
  rcases List.mem_append.mp hc with e | e
  · exact ht.2 c e
  · exact hm.2 c e
theorem joinMore_spec {t : Str} (ht : okW t) {acc : List Str} {m : Str} (hm : okW m) (h : WordsOk acc) : WordsOk (joinMore 2 t acc m) ∧ ∀ v, v ∈ joinMore 2 t acc m ↔ v ∈ acc ∨ (v = t ++ m ∧ ((t.length : Nat) : Int) + ((m.length : Nat) : Int) ≤ 2) := by
  unfold joinMore
  by_cases c : ((t.length : Nat) : Int) + ((m.length : Nat) : Int) ≤ 2
  · rw [decide_eq_true c, if_pos rfl]
    obtain ⟨h1, h2⟩ := addW_spec h (okW_app ht hm c)
    exact ⟨h1, fun v => by rw [h2]; simp [c]⟩
  · rw [decide_eq_false c, if_neg Bool.false_ne_true]
    exact ⟨h, fun v => by simp [c]⟩
theorem joinMores_spec {t : Str} (ht : okW t) : ∀ (ms : List Str) {acc : List Str}, (∀ m ∈ ms, okW m) → WordsOk acc → WordsOk (ms.foldl (joinMore 2 t) acc) ∧ ∀ v, v ∈ ms.foldl (joinMore 2 t) acc ↔ v ∈ acc ∨ ∃ m ∈ ms, v = t ++ m ∧ ((t.length : Nat) : Int) + ((m.length : Nat) : Int) ≤ 2
  | [], acc, _, h => ⟨h, fun v => by simp⟩
  | m :: ms, acc, hm, h => by
    obtain ⟨h1, h2⟩ := joinMore_spec ht (hm m (by simp)) h
    obtain ⟨h3, h4⟩ := joinMores_spec ht ms (fun x hx => hm x (by simp [hx])) h1
    rw [List.foldl_cons]
    refine ⟨h3, fun v => ?_⟩
    rw [h4, h2]
    constructor
    · rintro ((q | q) | ⟨x, hx, q⟩)
      · exact .inl q
      · exact .inr ⟨m, by simp, q⟩
      · exact .inr ⟨x, by simp [hx], q⟩
    · rintro (q | ⟨x, hx, q⟩)
      · exact .inl (.inl q)
      · rcases List.mem_cons.mp hx with e | e
        · subst e; exact .inl (.inr q)
        · exact .inr ⟨x, e, q⟩
theorem joinTexts_spec {ms : List Str} (hm : ∀ m ∈ ms, okW m) : ∀ (ts : List Str) {acc : List Str}, (∀ t ∈ ts, okW t) → WordsOk acc → WordsOk (ts.foldl (fun acc t => ms.foldl (joinMore 2 t) acc) acc) ∧ ∀ v, v ∈ ts.foldl (fun acc t => ms.foldl (joinMore 2 t) acc) acc ↔ v ∈ acc ∨ ∃ t ∈ ts, ∃ m ∈ ms, v = t ++ m ∧ ((t.length : Nat) : Int) + ((m.length : Nat) : Int) ≤ 2
  | [], acc, _, h => ⟨h, fun v => by simp⟩
  | t :: ts, acc, ht, h => by
    obtain ⟨h1, h2⟩ := joinMores_spec (ht t (by simp)) ms hm h
    obtain ⟨h3, h4⟩ := joinTexts_spec hm ts (fun x hx => ht x (by simp [hx])) h1
    rw [List.foldl_cons]
    refine ⟨h3, fun v => ?_⟩
    rw [h4, h2]
    constructor
    · rintro ((q | q) | ⟨x, hx, q⟩)
      · exact .inl q
      · exact .inr ⟨t, by simp, q⟩
      · exact .inr ⟨x, by simp [hx], q⟩
    · rintro (q | ⟨x, hx, q⟩)
      · exact .inl (.inl q)
      · rcases List.mem_cons.mp hx with e | e
        · subst e; exact .inl (.inr q)
        · exact .inr ⟨x, e, q⟩
/-- a word book: each name's words -/
structure KwOk (kw : KW) : Prop where
  nd : (kw.map (·.1)).Nodup
  ok : ∀ kv ∈ kw, WordsOk kv.2
def PartOk (kw : KW) (p : Str) : Prop := dhas kw p = true ∨ (isAbc p = true ∧ dhas kw p = false)
theorem abc_okW {p : Str} (h : isAbc p = true) : okW p := by
  rcases isAbc_cases h with e | e | e <;> subst e <;> exact ⟨by decide +kernel, by decide +kernel⟩
theorem someOf_ok {kw : KW} {p : Str} (K : KwOk kw) (h : PartOk kw p) : WordsOk (someOf kw p) := by
  unfold someOf
  rcases h with h | ⟨h, h2⟩
  · obtain ⟨ws, e⟩ := dhas_some.mp h
    rw [e]
    exact K.ok _ (dget_mem e)
  · have : dget kw p = none := by
      cases e : dget kw p with
      | none => rfl
      | some v => rw [dhas_some.mpr ⟨v, e⟩] at h2; cases h2
    rw [this]
    exact ⟨by simp, fun w hw => by simp at hw; rw [hw]; exact abc_okW h⟩
theorem joinStep_spec {kw : KW} (K : KwOk kw) {found : List Str} (hf : WordsOk found) {p : Str} (hp : PartOk kw p) : WordsOk (joinStep kw 2 found p) ∧ ∀ v, v ∈ joinStep kw 2 found p ↔ ∃ t ∈ found, ∃ m ∈ someOf kw p, v = t ++ m ∧ ((t.length : Nat) : Int) + ((m.length : Nat) : Int) ≤ 2 := by
  obtain ⟨h1, h2⟩ := joinTexts_spec (someOf_ok K hp).ok found hf.ok ⟨List.nodup_nil, fun w hw => by cases hw⟩
  exact ⟨h1, fun v => by rw [joinStep, h2]; simp⟩
theorem joined_ok {kw : KW} (K : KwOk kw) : ∀ (ps : List Str) (found : List Str), (∀ p ∈ ps, PartOk kw p) → WordsOk found → WordsOk (ps.foldl (joinStep kw 2) found)
  | [], _, _, h => h
  | p :: ps, found, hp, h => joined_ok K ps _ (fun q hq => hp q (by simp [hq])) (joinStep_spec K h (hp p (by simp))).1
theorem empty_ok : WordsOk [""] := ⟨by simp, fun w hw => by simp at hw; subst hw; exact ⟨by decide +kernel, by decide +kernel⟩⟩
def rWs : Rp (List Str) := ⟨fun K G v ws => Rp.bl.dct.rel K G v (ws.map fun x => (x, true)), fun s h => Rp.bl.dct.mono s h⟩
theorem dput_mk_in (l : List Str) (k : Str) (h : k ∈ l) : dput (l.map fun x => (x, true)) k true = l.map fun x => (x, true) := by
  unfold dput
  rw [dhas_mk, decide_eq_true h, if_pos rfl, List.map_map]
  apply List.map_congr_left
  intro x hx
  show (if x = k then (x, true) else (x, true)) = (x, true)
  split <;> rfl
theorem dput_addW (l : List Str) (k : Str) : dput (l.map fun x => (x, true)) k true = (addW l k).map fun x => (x, true) := by
  unfold addW
  by_cases c : k ∈ l
  · rw [if_pos c, dput_mk_in l k c]
  · rw [if_neg c, dput_mk l k c]
section
variable (P : Program) (w : World) (K : PySem.W.Frag) (mg : Str → Option Value) (base : Heap)
abbrev D_joined := Df P w K mg base CX0 "_law_joined" ["parts", "known", "most"] 1 (spI K (ι := List Str × KW) (fun i => [.dat Rp.str.tup i.1, .dat rWs.dct i.2, .dat Rp.int 2]) (fun i => KwOk i.2 ∧ ∀ p ∈ i.1, PartOk i.2 p) Rp.str.lst (fun i => joined i.2 2 i.1))
end
section
variable {P : Program} {w : World} {K : PySem.W.Frag} {mg : Str → Option Value} {base : Heap}
theorem map_fst_mk (l : List Str) : (l.map fun x => (x, true)).map (·.1) = l := by
  rw [List.map_map]
  exact List.map_id' l
theorem ok_joined (T : Top K mg "_law_joined" st__law_joined ["parts", "known", "most"]) (M : Blt mg) : D_joined P w K mg base := T.df fun f fd F => by
  refine fn_pure F sc__law_joined (fun _ => rfl) no3 fun ⟨ps, kw⟩ ⟨KO, hps⟩ cdv Aa outer sh H E B hr => ?_
  have KO : KwOk kw := KO
  have hps : ∀ p ∈ ps, PartOk kw p := hps
  show PSl _ _ [.dat Rp.str.tup ps, .dat rWs.dct kw, .dat Rp.int 2, .un, .un, .un, .un, .un, .un] _ _
  refine ss_set 3 (pr_lst Rp.str [""] (par_cons pr_str par_nil)) ?_ sc__law_joined.nd
  refine ss_for (fun i es => ∃ (found : List Str) (a4 a5 a6 a7 a8 : Sl), found = (ps.take i).foldl (joinStep kw 2) [""] ∧ WordsOk found ∧ es = [.dat Rp.str.tup ps, .dat rWs.dct kw, .dat Rp.int 2, .dat Rp.str.lst found, a4, a5, a6, a7, a8])
    (it_tup (pr_var 0)) (tg_name 4 sc__law_joined.nd) ⟨[""], .un, .un, .un, .un, .un, rfl, empty_ok, rfl⟩ ?_ ?_ PassesOwn.never rfl
  · rintro B' i p _ hi ⟨found, a4, a5, a6, a7, a8, hf, fo, rfl⟩
    have hp := hps p (List.mem_of_getElem? hi)
    have hnx : (ps.take (i + 1)).foldl (joinStep kw 2) [""] = joinStep kw 2 found p := by rw [take_succ hi, List.foldl_append, ← hf]; rfl
    have so := someOf_ok KO hp
    obtain ⟨jo, _⟩ := joinStep_spec KO fo hp
    show PSl _ _ [.dat Rp.str.tup ps, .dat rWs.dct kw, .dat Rp.int 2, .dat Rp.str.lst found, .dat Rp.str p, a5, a6, a7, a8] _ _
    refine ss_set 5 (pr_lst Rp.str [p] (par_cons (pr_var 4) par_nil) (small (by simp))) ?_ sc__law_joined.nd
    refine ss_if (fun es => es = [.dat Rp.str.tup ps, .dat rWs.dct kw, .dat Rp.int 2, .dat Rp.str.lst found, .dat Rp.str p, .dat Rp.str.lst (someOf kw p), a6, a7, a8])
      (pb_din (hu1 hr) (pr_var 4) (pr_d (pr_var 1))) (fun c => ?_) (fun c => ?_) ?_
    · obtain ⟨ws, e⟩ := dhas_some.mp c
      refine ss_set 5 (pr_callT (par_cons (pr_d (pr_conv (C := Rp.bl.dct) (c := ws.map fun x => (x, true)) (pr_dget (hu1 hr) (pr_d (pr_var 1)) (pr_var 4) e) fun _ _ h => h)) par_nil) M.list (cb_listD rfl)) (ss_nil ?_) sc__law_joined.nd
      rw [map_fst_mk]
      have : someOf kw p = ws := by unfold someOf; rw [e]; rfl
      rw [this]; rfl
    · refine ss_nil ?_
      have : someOf kw p = [p] := by
        unfold someOf
        cases e : dget kw p with
        | none => rfl
        | some v => rw [dhas_some.mpr ⟨v, e⟩] at c; cases c
      rw [this]; rfl
    rintro _ rfl
    refine ss_ownD 6 Rp.bl ?_ sc__law_joined.nd
    have hfl := okW_len fo.nd fo.ok
    have hsl := okW_len so.nd so.ok
    refine ss_for (fun j es => ∃ (acc : List Str) (a7 a8 : Sl), acc = (found.take j).foldl (fun acc t => (someOf kw p).foldl (joinMore 2 t) acc) [] ∧ WordsOk acc ∧ es = [.dat Rp.str.tup ps, .dat rWs.dct kw, .dat Rp.int 2, .dat Rp.str.lst found, .dat Rp.str p, .dat Rp.str.lst (someOf kw p), .own (.dct Rp.bl (acc.map fun x => (x, true))), a7, a8])
      (it_list (pr_var 3)) (tg_name 7 sc__law_joined.nd) ⟨[], a7, a8, rfl, ⟨List.nodup_nil, fun w hw => (by cases hw)⟩, rfl⟩ ?_ ?_ PassesOwn.never rfl
    · rintro B'' j t _ hj ⟨acc, a7, a8, hacc, ao, rfl⟩
      have ht := fo.ok t (List.mem_of_getElem? hj)
      have hnx2 : (found.take (j + 1)).foldl (fun acc t => (someOf kw p).foldl (joinMore 2 t) acc) [] = (someOf kw p).foldl (joinMore 2 t) acc := by rw [take_succ hj, List.foldl_append, ← hacc]; rfl
      show PSl _ _ [.dat Rp.str.tup ps, .dat rWs.dct kw, .dat Rp.int 2, .dat Rp.str.lst found, .dat Rp.str p, .dat Rp.str.lst (someOf kw p), .own (.dct Rp.bl (acc.map fun x => (x, true))), .dat Rp.str t, a8] _ _
      refine ss_for (fun k es => ∃ (acc' : List Str) (a8 : Sl), acc' = ((someOf kw p).take k).foldl (joinMore 2 t) acc ∧ WordsOk acc' ∧ es = [.dat Rp.str.tup ps, .dat rWs.dct kw, .dat Rp.int 2, .dat Rp.str.lst found, .dat Rp.str p, .dat Rp.str.lst (someOf kw p), .own (.dct Rp.bl (acc'.map fun x => (x, true))), .dat Rp.str t, a8])
        (it_list (pr_var 5)) (tg_name 8 sc__law_joined.nd) ⟨acc, a8, rfl, ao, rfl⟩ ?_ ?_ PassesOwn.never rfl
      · rintro B''' k m _ hk ⟨acc', a8, hacc', ao', rfl⟩
        have hm := so.ok m (List.mem_of_getElem? hk)
        have hnx3 : ((someOf kw p).take (k + 1)).foldl (joinMore 2 t) acc = joinMore 2 t acc' m := by rw [take_succ hk, List.foldl_append, ← hacc']; rfl
        obtain ⟨ao2, _⟩ := joinMore_spec ht hm ao'
        have hal := okW_len ao'.nd ao'.ok
        show PSl _ _ [.dat Rp.str.tup ps, .dat rWs.dct kw, .dat Rp.int 2, .dat Rp.str.lst found, .dat Rp.str p, .dat Rp.str.lst (someOf kw p), .own (.dct Rp.bl (acc'.map fun x => (x, true))), .dat Rp.str t, .dat Rp.str m] _ _
        refine ss_if2 (pb_cmp (pr_bin (pr_callB (par_cons (pr_var 7) par_nil) M.len cb_lenS) (pr_callB (par_cons (pr_var 8) par_nil) M.len cb_lenS) bin_add) (pr_var 2) cmp_le) (fun c => ?_) (fun c => ?_)
        · have c2 := of_decide_eq_true c
          refine ss_dput 6 pr_bl (pr_bin (pr_var 7) (pr_var 8) (bin_addS ?_)) ?_ (hu1 hr) ?_
          · unfold strMax; omega
          · refine ss_nil (ss_nil ⟨joinMore 2 t acc' m, .dat Rp.str m, hnx3.symm, ao2, ?_⟩)
            rw [dput_addW]
            unfold joinMore
            rw [if_pos c]; rfl
          · rw [List.length_map]; exact smallL (by omega)
        · refine ss_nil (ss_nil ⟨acc', .dat Rp.str m, ?_, ao', rfl⟩)
          rw [hnx3]
          unfold joinMore
          rw [if_neg (by rw [c]; exact Bool.false_ne_true)]
      · rintro _ ⟨acc', a8, hacc', ao', rfl⟩
        refine ss_nil ⟨acc', .dat Rp.str t, a8, ?_, ao', rfl⟩
        rw [hnx2, hacc', List.take_length]
    · rintro _ ⟨acc, a7, a8, hacc, ao, rfl⟩
      refine ss_set 3 (pr_callT (par_cons (pr_ownD 6) par_nil) M.list (cb_listD rfl)) (ss_nil ⟨joinStep kw 2 found p, .dat Rp.str p, .dat Rp.str.lst (someOf kw p), .own (.dct Rp.bl (acc.map fun x => (x, true))), a7, a8, hnx.symm, jo, ?_⟩) sc__law_joined.nd
      rw [map_fst_mk]
      have : acc = joinStep kw 2 found p := by rw [hacc, List.take_length]; rfl
      rw [this]; rfl
  · rintro _ ⟨found, a4, a5, a6, a7, a8, hf, fo, rfl⟩
    refine ss_ret (pr_var 3) fun G v h => ?_
    rw [hf, List.take_length] at h
    exact h
end
end Rw

/-! RwF: a dict of dicts that a slot owns -/
namespace Rw
open PySem PySem.Spec PyProof.Rows L2
section
variable {K : PySem.W.Frag} {B : Bs} {es : List Sl} {σ : L2.St} {G H : Hp} {ps : List Addr}
theorem Slots.setF (h : Slots K B G H es σ ps) {i : Nat} {F : Fm} {p : Addr} {qs : List Addr} (h1 : F.rel K G H p qs) (h2 : ∀ q ∈ p :: qs, G q = none ∧ B.H q = none ∧ ∃ o, H q = some o) (hd : ∀ q ∈ p :: qs, q ∉ ps) (hn : ps.Nodup) (hn2 : (p :: qs).Nodup) :
    ∃ rs, Slots K B G H (es.set i (.fam F)) (σ.set i (some (.ref p))) rs ∧ rs.Nodup ∧ ∀ r ∈ rs, r ∈ p :: qs ∨ r ∈ ps := by
  induction h generalizing i with
  | nil => exact ⟨[], .nil, by simp, by simp⟩
  | un h ih =>
    cases i with
    | zero => exact ⟨_, .fam h1 h2 h, List.nodup_append.mpr ⟨hn2, hn, fun a ha b hb e => hd a ha (e ▸ hb)⟩, fun r hr => List.mem_append.mp hr⟩
    | succ i => obtain ⟨rs, q, s, t⟩ := ih (i := i) hd hn; exact ⟨rs, .un q, s, t⟩
  | dat g1 h ih =>
    cases i with
    | zero => exact ⟨_, .fam h1 h2 h, List.nodup_append.mpr ⟨hn2, hn, fun a ha b hb e => hd a ha (e ▸ hb)⟩, fun r hr => List.mem_append.mp hr⟩
    | succ i => obtain ⟨rs, q, s, t⟩ := ih (i := i) hd hn; exact ⟨rs, .dat g1 q, s, t⟩
  | @own _ _ ps O' p' o' g1 g2 g3 g4 h ih =>
    have hn' := List.nodup_cons.mp hn
    have hd' : ∀ q ∈ p :: qs, q ∉ ps := fun q hq hm => hd q hq (List.mem_cons_of_mem _ hm)
    cases i with
    | zero => exact ⟨_, .fam h1 h2 h, List.nodup_append.mpr ⟨hn2, hn'.2, fun a ha b hb e => hd' a ha (e ▸ hb)⟩, fun r hr => (List.mem_append.mp hr).imp id (List.mem_cons_of_mem _)⟩
    | succ i =>
      obtain ⟨rs, q, s, t⟩ := ih (i := i) hd' hn'.2
      refine ⟨p' :: rs, .own g1 g2 g3 g4 q, List.nodup_cons.mpr ⟨fun hm => ?_, s⟩, fun z hz => ?_⟩
      · rcases t _ hm with e | e
        · exact hd p' e (by simp)
        · exact hn'.1 e
      · rcases List.mem_cons.mp hz with e | e
        · exact .inr (by simp [e])
        · exact (t _ e).imp id (List.mem_cons_of_mem _)
  | @fam _ _ ps F' p' qs' g1 g2 h ih =>
    have hn' := List.nodup_append.mp hn
    have hd' : ∀ q ∈ p :: qs, q ∉ ps := fun q hq hm => hd q hq (List.mem_append_right _ hm)
    cases i with
    | zero => exact ⟨_, .fam h1 h2 h, List.nodup_append.mpr ⟨hn2, hn'.2.1, fun a ha b hb e => hd' a ha (e ▸ hb)⟩, fun r hr => (List.mem_append.mp hr).imp id (List.mem_append_right _)⟩
    | succ i =>
      obtain ⟨rs, q, s, t⟩ := ih (i := i) hd' hn'.2.1
      refine ⟨_, .fam g1 g2 q, List.nodup_append.mpr ⟨hn'.1, s, fun a ha b hb e => ?_⟩, fun z hz => ?_⟩
      · subst e
        rcases t _ hb with c | c
        · exact hd a c (List.mem_append_left _ ha)
        · exact hn'.2.2 a ha a c rfl
      · rcases List.mem_append.mp hz with e | e
        · exact .inr (List.mem_append_left _ e)
        · exact (t _ e).imp id (List.mem_append_right _)
/-- what a slot holds, and how it may change -/
theorem Slots.getF (h : Slots K B G H es σ ps) (hn : ps.Nodup) {i : Nat} {F : Fm} (e : es[i]? = some (.fam F)) : ∃ p qs, σ[i]? = some (some (.ref p)) ∧ F.rel K G H p qs ∧ (∀ q ∈ p :: qs, G q = none ∧ B.H q = none ∧ ∃ o, H q = some o) ∧ (p :: qs).Nodup ∧ (∀ q ∈ p :: qs, q ∈ ps) ∧
    ∀ (F' : Fm) (qs' : List Addr) (H' : Hp), F'.rel K G H' p qs' → (∀ q ∈ p :: qs', G q = none ∧ B.H q = none ∧ ∃ o, H' q = some o) → (p :: qs').Nodup → (∀ q ∈ qs', q ∈ qs ∨ H q = none) → (∀ a o, a ∉ p :: qs → H a = some o → H' a = some o) →
      ∃ ps', Slots K B G H' (es.set i (.fam F')) σ ps' ∧ ps'.Nodup ∧ ∀ a ∈ ps', a ∈ ps ∨ H a = none := by
  induction h generalizing i with
  | nil => simp at e
  | un h ih =>
    cases i with
    | zero => simp at e
    | succ i =>
      obtain ⟨p, qs, a1, a2, a3, a4, a5, a6⟩ := ih hn (i := i) (by simpa using e)
      refine ⟨p, qs, by simpa using a1, a2, a3, a4, a5, fun F' qs' H' b1 b2 b3 b4 b5 => ?_⟩
      obtain ⟨ps', c1, c2, c3⟩ := a6 F' qs' H' b1 b2 b3 b4 b5
      exact ⟨ps', .un c1, c2, c3⟩
  | dat g1 h ih =>
    cases i with
    | zero => simp at e
    | succ i =>
      obtain ⟨p, qs, a1, a2, a3, a4, a5, a6⟩ := ih hn (i := i) (by simpa using e)
      refine ⟨p, qs, by simpa using a1, a2, a3, a4, a5, fun F' qs' H' b1 b2 b3 b4 b5 => ?_⟩
      obtain ⟨ps', c1, c2, c3⟩ := a6 F' qs' H' b1 b2 b3 b4 b5
      exact ⟨ps', .dat g1 c1, c2, c3⟩
  | @own _ _ ps O' p' o' g1 g2 g3 g4 h ih =>
    have hn' := List.nodup_cons.mp hn
    cases i with
    | zero => simp at e
    | succ i =>
      obtain ⟨p, qs, a1, a2, a3, a4, a5, a6⟩ := ih hn'.2 (i := i) (by simpa using e)
      refine ⟨p, qs, by simpa using a1, a2, a3, a4, fun q hq => List.mem_cons_of_mem _ (a5 q hq), fun F' qs' H' b1 b2 b3 b4 b5 => ?_⟩
      obtain ⟨ps', c1, c2, c3⟩ := a6 F' qs' H' b1 b2 b3 b4 b5
      refine ⟨p' :: ps', .own (b5 p' o' (fun hm => hn'.1 (a5 p' hm)) g1) g2 g3 g4 c1, List.nodup_cons.mpr ⟨fun hm => ?_, c2⟩, fun a ha => ?_⟩
      · rcases c3 p' hm with z | z
        · exact hn'.1 z
        · rw [g1] at z; cases z
      · rcases List.mem_cons.mp ha with z | z
        · exact .inl (by simp [z])
        · exact (c3 a z).imp (List.mem_cons_of_mem _) id
  | @fam _ _ ps F0 p' qs0 g1 g2 h ih =>
    have hn' := List.nodup_append.mp hn
    cases i with
    | zero =>
      simp only [List.getElem?_cons_zero, Option.some.injEq, Sl.fam.injEq] at e
      subst e
      refine ⟨p', qs0, rfl, g1, g2, hn'.1, fun q hq => List.mem_append_left _ hq, fun F' qs' H' b1 b2 b3 b4 b5 => ?_⟩
      have hdis : ∀ a ∈ ps, a ∉ p' :: qs0 := fun a ha hm => hn'.2.2 a hm a ha rfl
      refine ⟨_, .fam b1 b2 (h.to (Same.refl _) fun q hq => ?_), List.nodup_append.mpr ⟨b3, hn'.2.1, fun a ha b hb ee => ?_⟩, fun a ha => ?_⟩
      · obtain ⟨f1, f2, o, f3⟩ := h.free q hq
        exact ⟨f1, by rw [f3]; exact b5 q o (hdis q hq) f3⟩
      · subst ee
        obtain ⟨_, _, o, f3⟩ := h.free a hb
        rcases List.mem_cons.mp ha with z | z
        · exact hdis a hb (by simp [z])
        · rcases b4 a z with y | y
          · exact hdis a hb (List.mem_cons_of_mem _ y)
          · rw [f3] at y; cases y
      · rcases List.mem_append.mp ha with z | z
        · rcases List.mem_cons.mp z with y | y
          · exact .inl (by simp [y])
          · exact (b4 a y).imp (fun w => by simp [w]) id
        · exact .inl (List.mem_append_right _ z)
    | succ i =>
      obtain ⟨p, qs, a1, a2, a3, a4, a5, a6⟩ := ih hn'.2.1 (i := i) (by simpa using e)
      refine ⟨p, qs, by simpa using a1, a2, a3, a4, fun q hq => List.mem_append_right _ (a5 q hq), fun F' qs' H' b1 b2 b3 b4 b5 => ?_⟩
      obtain ⟨ps', c1, c2, c3⟩ := a6 F' qs' H' b1 b2 b3 b4 b5
      have hk : ∀ q ∈ p' :: qs0, H' q = H q := fun q hq => by
        obtain ⟨_, _, o, f⟩ := g2 q hq
        rw [f]; exact b5 q o (fun hm => hn'.2.2 q hq q (a5 q hm) rfl) f
      refine ⟨_, .fam (F0.mono (Same.refl _) hk g1) (fun q hq => ?_) c1, List.nodup_append.mpr ⟨hn'.1, c2, fun a ha b hb ee => ?_⟩, fun a ha => ?_⟩
      · obtain ⟨f1, f2, o, f3⟩ := g2 q hq
        exact ⟨f1, f2, o, (hk q hq).trans f3⟩
      · subst ee
        rcases c3 a hb with z | z
        · exact hn'.2.2 a ha a z rfl
        · obtain ⟨_, _, o, f3⟩ := g2 a ha
          rw [f3] at z; cases z
      · rcases List.mem_append.mp ha with z | z
        · exact .inl (List.mem_append_left _ z)
        · exact (c3 a z).imp (List.mem_append_right _) id
end
section
variable {K : PySem.W.Frag} {B : Bs} {es : List Sl} {σ : L2.St} {G H : Hp}
theorem EnvA.getF (E : EnvA K B es σ G H) {i : Nat} {F : Fm} (e : es[i]? = some (.fam F)) : ∃ p qs, σ[i]? = some (some (.ref p)) ∧ F.rel K G H p qs ∧ (∀ q ∈ p :: qs, G q = none ∧ B.H q = none ∧ ∃ o, H q = some o) ∧ (p :: qs).Nodup ∧
    ∀ (F' : Fm) (qs' : List Addr) (H' : Hp), F'.rel K G H' p qs' → (∀ q ∈ qs', q ∈ qs ∨ (H q = none ∧ ∃ o, H' q = some o)) → (∀ q ∈ p :: qs, ∃ o, H' q = some o) → (p :: qs').Nodup → (∀ a o, a ∉ p :: qs → H a = some o → H' a = some o) → EnvA K B (es.set i (.fam F')) σ G H' := by
  obtain ⟨ps, h, n⟩ := E.sl
  obtain ⟨p, qs, a1, a2, a3, a4, a5, a6⟩ := h.getF n e
  refine ⟨p, qs, a1, a2, a3, a4, fun F' qs' H' b1 b2 b3 b4 b5 => ?_⟩
  have st : Stp B.G B.H G H' := by
    refine ⟨E.st.gg, fun b o eb => ?_, fun b o eb => ?_, E.st.nw⟩
    · exact b5 b o (fun hm => by rw [(a3 b hm).1] at eb; cases eb) (E.st.gh b o eb)
    · exact b5 b o (fun hm => by rw [(a3 b hm).2.1] at eb; cases eb) (E.st.hh b o eb)
  obtain ⟨ps', c1, c2, _⟩ := a6 F' qs' H' b1 (fun q hq => by
    rcases List.mem_cons.mp hq with z | z
    · subst z
      exact ⟨(a3 q (by simp)).1, (a3 q (by simp)).2.1, b3 q (by simp)⟩
    · rcases b2 q z with y | ⟨y, w⟩
      · exact ⟨(a3 q (by simp [y])).1, (a3 q (by simp [y])).2.1, b3 q (by simp [y])⟩
      · exact ⟨E.same.free y, E.st.hh.free y, w⟩) b4 (fun q hq => (b2 q hq).imp id fun z => z.1) b5
  exact ⟨st, ps', c1, c2⟩
theorem EnvA.freshF (E : EnvA K B es σ G H) {i : Nat} {F : Fm} {p : Addr} {o : HO} (hp : H p = none) (h1 : F.rel K G (upd H p o) p []) : EnvA K B (es.set i (.fam F)) (σ.set i (some (.ref p))) G (upd H p o) := by
  obtain ⟨ps, h, n⟩ := E.sl
  have s := Stp.fresh E.same hp o
  have hm : p ∉ ps := fun hm => by obtain ⟨_, _, o, e⟩ := h.free p hm; rw [hp] at e; cases e
  obtain ⟨rs, q, nd, _⟩ := (h.step s).setF (i := i) h1 (fun q hq => by
    have : q = p := by simpa using hq
    subst this
    exact ⟨E.same.free hp, E.st.hh.free hp, o, upd_same⟩) (fun q hq => by
    have : q = p := by simpa using hq
    subst this; exact hm) n (by simp)
  exact ⟨E.st.trans s, rs, q, nd⟩
end
/-! words by names -/
def WD (H : Hp) (q : Addr) (ws : List Str) : Prop := ∃ es, H q = some (.dK es) ∧ Paired (fun (d : Key × V) (x : Str × Bool) => d.1 = Sum.inr x.1 ∧ d.2 = .bl x.2 ∧ SOk x.1) es (ws.map fun w => (w, true)) ∧ ws.length ≤ sizeLine
def outK (kw : KW) (qs : List Addr) : List (Key × V) := List.zipWith (fun (x : Str × List Str) q => (Sum.inr x.1, V.ref q)) kw qs
def famK (kw : KW) : Fm := ⟨fun K G H p qs => H p = some (.dK (outK kw qs)) ∧ qs.length = kw.length ∧ (∀ (i : Nat) x q, kw[i]? = some x → qs[i]? = some q → SOk x.1 ∧ WD H q x.2) ∧ kw.length ≤ 1000,
  fun {K G G' H H' p qs} _ hk ⟨h1, h2, h3, h4⟩ => ⟨(hk p (by simp)).trans h1, h2, fun i x q e1 e2 => by
    obtain ⟨a, es, b, c⟩ := h3 i x q e1 e2
    exact ⟨a, es, (hk q (List.mem_cons_of_mem _ (List.mem_of_getElem? e2))).trans b, c⟩, h4⟩⟩
theorem out_keys : ∀ {kw kw' : KW} {qs : List Addr}, kw'.map (·.1) = kw.map (·.1) → outK kw' qs = outK kw qs
  | [], [], _, _ => rfl
  | [], _ :: _, _, h => by cases h
  | _ :: _, [], _, h => by cases h
  | x :: kw, y :: kw', [], _ => by simp [outK]
  | x :: kw, y :: kw', q :: qs, h => by
    rw [List.map_cons, List.map_cons] at h
    injection h with h1 h2
    have := out_keys (qs := qs) h2
    unfold outK at this ⊢
    rw [List.zipWith_cons_cons, List.zipWith_cons_cons, this, h1]
theorem out_val : ∀ {kw : KW} {qs : List Addr} {n : Str}, qs.length = kw.length → (∀ ws, dget kw n = some ws → ∃ (j : Nat) (q : Addr), kw[j]? = some (n, ws) ∧ qs[j]? = some q ∧ valV (outK kw qs) (Sum.inr n) = some (.ref q)) ∧ (dget kw n = none → valV (outK kw qs) (Sum.inr n) = none)
  | [], _, _, _ => ⟨fun ws h => (by cases h), fun _ => rfl⟩
  | x :: kw, [], _, h => by cases h
  | x :: kw, q :: qs, n, h => by
    obtain ⟨h1, h2⟩ := out_val (kw := kw) (qs := qs) (n := n) (by simpa using h)
    rw [dget_cons]
    show (∀ ws, _ → ∃ j q', _ ∧ _ ∧ valV ((Sum.inr x.1, V.ref q) :: outK kw qs) (Sum.inr n) = some (.ref q')) ∧ (_ → valV ((Sum.inr x.1, V.ref q) :: outK kw qs) (Sum.inr n) = none)
    by_cases e : x.1 = n
    · rw [if_pos e, valV_pos (by rw [e])]
      exact ⟨fun ws hw => by cases hw; exact ⟨0, q, by subst e; rfl, rfl, rfl⟩, fun z => by cases z⟩
    · rw [if_neg e, valV_neg (by exact fun z => e (Sum.inr.inj z))]
      refine ⟨fun ws hw => ?_, h2⟩
      obtain ⟨j, q', a, b, c⟩ := h1 ws hw
      exact ⟨j + 1, q', by simpa using a, by simpa using b, c⟩
theorem famK_dict {kw : KW} {K : PySem.W.Frag} {G H : Hp} {p : Addr} {qs : List Addr} (h : (famK kw).rel K G H p qs) : ∀ q ∈ p :: qs, ∃ es, H q = some (.dK es) := by
  obtain ⟨h1, h2, h3, _⟩ := h
  intro q hq
  rcases List.mem_cons.mp hq with e | e
  · subst e; exact ⟨_, h1⟩
  · obtain ⟨i, hi, ei⟩ := List.mem_iff_getElem.mp e
    obtain ⟨_, es, h5, _⟩ := h3 i _ q (List.getElem?_eq_getElem (show i < kw.length by omega)) (by rw [List.getElem?_eq_getElem hi, ei])
    exact ⟨es, h5⟩
section
variable {X : Cx} {B : Bs} {es : List Sl} {sts : List Stmt} {O : Out} {e a b : Expr} {pos p p' np lp : Pos} {x : Str} {kw : KW} {n : Str} {ws : List Str}
/-- x = {}, a dict of dicts -/
theorem ss_fam0 (i : Nat) (r : PSl X B (es.set i (.fam (famK []))) sts O) (hN : X.N.Nodup) (hi : X.N[i]? = some x := by rfl) (hx : L2.Loc X.env.scope x := by first | exact Or.inl rfl | exact Or.inr rfl)
    (hs : swapsWith (.Dict [] [] lp) (some (.Name x p')) pos.line X.env = pure false := by rfl) (hf : X.fn x = true ∨ X.env.scope.names.lookup x = some .local := by first | exact .inl rfl | exact .inr rfl | assumption) : PSl X B es (.Assign [.Name x p'] (.Dict [] [] lp) pos :: sts) O :=
  ss_do (ps_set hN hi hx pe_dnewK hs hf) (fun D σ G H E q p hp => q _ G _ (E.freshF (F := famK []) hp ⟨upd_same, rfl, fun i x q h => by simp at h, Nat.zero_le _⟩)) r
/-- known[name], read -/
theorem pr_famget (i : Nat) (hk : PR X B es a (Rp.str.at n)) (h : dget kw n = some ws) (hu : X.A.units + 1 < cLine) (hi : es[i]? = some (.fam (famK kw)) := by rfl) (hN : X.N[i]? = some x := by rfl)
    (hv : Vis X.env.scope x := by first | exact Or.inl rfl | exact Or.inr (Or.inl rfl) | exact Or.inr (Or.inr rfl)) (hd : (x == ("__debug__" : Str)) = false := by decide) (hcd : (x == ("__classdict__" : Str)) = false := by decide)
    (hs : NoSl a := by exact fun _ _ => rfl) : PR X B es (.Subscript (.Name x np) a pos) (rD Rp.bl (ws.map fun w => (w, true))) :=
  pr_of (pe_dget hu (pe_var hN hv hd hcd) hk hs) fun σ G H Q E q => by
    obtain ⟨p, qs, e1, _⟩ := E.getF hi
    refine ⟨_, e1, G, E, fun y G2 H2 s2 ⟨e2, _⟩ => ?_⟩
    obtain ⟨p2, qs2, e3, ⟨f1, f2, f3, f4⟩, _⟩ := (E.step s2).getF hi
    rw [e1] at e3; cases e3
    obtain ⟨j, q1, g1, g2, g3⟩ := (out_val f2).1 ws h
    obtain ⟨_, es', g4, g5, g6⟩ := f3 j _ q1 g1 g2
    exact ⟨p, _, rfl, .inl ⟨_, .inr n, .inl f1, e2, g3.symm⟩, q _ G2 H2 s2 ⟨q1, es', rfl, .inl g4, g5, by rw [List.length_map]; exact g6⟩⟩
/-- name in known -/
def rF (F : Fm) : Rl := ⟨fun K G H v => ∃ p qs, v = .ref p ∧ F.rel K G H p qs ∧ ∀ q ∈ p :: qs, G q = none ∧ ∃ o, H q = some o, fun {K G H G' H' v} s ⟨p, qs, e, h, f⟩ => ⟨p, qs, e, F.mono s.gg (fun q hq => by
  obtain ⟨_, o, z⟩ := f q hq
  rw [z]; exact s.hh q o z) h, fun q hq => by
  obtain ⟨y, o, z⟩ := f q hq
  refine ⟨?_, o, s.hh q o z⟩
  cases w : G' q with
  | none => rfl
  | some u =>
    rcases s.nw q u w with t | t
    · rw [y] at t; cases t
    · rw [z] at t; cases t⟩⟩
theorem pr_fam (i : Nat) {F : Fm} (hN : X.N[i]? = some x := by rfl) (he : es[i]? = some (.fam F) := by rfl)
    (hv : Vis X.env.scope x := by first | exact Or.inl rfl | exact Or.inr (Or.inl rfl) | exact Or.inr (Or.inr rfl)) (hd : (x == ("__debug__" : Str)) = false := by decide)
    (hcd : (x == ("__classdict__" : Str)) = false := by decide) : PR X B es (.Name x pos) (rF F) :=
  pr_of (pe_var hN hv hd hcd) fun σ G H Q E q => by
    obtain ⟨p, qs, e1, f, g, _⟩ := E.getF he
    exact ⟨_, e1, q _ G H (Stp.refl E.same) ⟨p, qs, rfl, f, fun z hz => ⟨(g z hz).1, (g z hz).2.2⟩⟩⟩
theorem out_inj : ∀ {kw : KW} {qs rs : List Addr}, qs.length = kw.length → rs.length = kw.length → outK kw qs = outK kw rs → qs = rs
  | [], [], [], _, _, _ => rfl
  | [], _ :: _, _, h, _, _ => by cases h
  | [], [], _ :: _, _, h, _ => by cases h
  | _ :: _, [], _, h, _, _ => by cases h
  | _ :: _, _ :: _, [], _, h, _ => by cases h
  | x :: kw, q :: qs, r :: rs, h1, h2, h3 => by
    have h3 : (Sum.inr x.1, V.ref q) :: outK kw qs = (Sum.inr x.1, V.ref r) :: outK kw rs := h3
    injection h3 with h4 h5
    injection h4 with _ h6
    injection h6 with h6
    rw [h6, out_inj (by simpa using h1) (by simpa using h2) h5]
def repl (kw : KW) (qs : List Addr) (n : Str) (q1 : Addr) : List Addr := if dhas kw n = true then List.zipWith (fun (x : Str × List Str) q => if x.1 = n then q1 else q) kw qs else qs ++ [q1]
theorem repl_len {kw : KW} {qs : List Addr} {n : Str} {q1 : Addr} (h : qs.length = kw.length) {v : List Str} : (repl kw qs n q1).length = (dput kw n v).length := by
  unfold repl
  rw [dput_length]
  split
  · rw [List.length_zipWith]; omega
  · rw [List.length_append, List.length_singleton]; omega
theorem putK_new {ds : List (Key × V)} {k : Key} {v : V} (h : valV ds k = none) : putK ds k v = ds ++ [(k, v)] := by
  unfold putK
  rw [valV_any, h]; rfl
theorem putK_old {ds : List (Key × V)} {k : Key} {v u : V} (h : valV ds k = some u) : putK ds k v = ds.map fun d => if d.1 = k then (d.1, v) else d := by
  unfold putK
  rw [valV_any, h]; rfl
theorem out_map {n : Str} {q1 : Addr} {v : List Str} : ∀ {kw : KW} {qs : List Addr}, outK (kw.map fun kv => if kv.1 = n then (kv.1, v) else kv) (List.zipWith (fun (x : Str × List Str) q => if x.1 = n then q1 else q) kw qs) = (outK kw qs).map fun d => if d.1 = Sum.inr n then (d.1, .ref q1) else d
  | [], _ => rfl
  | _ :: _, [] => rfl
  | x :: kw, q :: qs => by
    have ih := out_map (n := n) (q1 := q1) (v := v) (kw := kw) (qs := qs)
    unfold outK at ih ⊢
    rw [List.map_cons, List.zipWith_cons_cons, List.zipWith_cons_cons, List.zipWith_cons_cons, List.map_cons, ih]
    congr 1
    by_cases e : x.1 = n
    · simp [e]
    · have : ¬ (Sum.inr x.1 : Key) = Sum.inr n := fun z => e (Sum.inr.inj z)
      simp [e, this]
theorem repl_out {kw : KW} {qs : List Addr} {n : Str} {q1 : Addr} {v : List Str} (h : qs.length = kw.length) : putK (outK kw qs) (Sum.inr n) (.ref q1) = outK (dput kw n v) (repl kw qs n q1) := by
  obtain ⟨o1, o2⟩ := out_val (n := n) h
  unfold repl dput
  by_cases c : dhas kw n = true
  · rw [if_pos c, if_pos c]
    obtain ⟨ws, hw⟩ := dhas_some.mp c
    obtain ⟨j, q, _, _, e⟩ := o1 ws hw
    rw [putK_old e, out_map]
  · rw [if_neg c, if_neg c]
    have hn : dget kw n = none := by
      cases e : dget kw n with
      | none => rfl
      | some v' => exact absurd (dhas_some.mpr ⟨v', e⟩) c
    rw [putK_new (o2 hn)]
    unfold outK
    rw [List.zipWith_append h.symm]
    rfl
theorem repl_mem {kw : KW} {n : Str} {q1 : Addr} : ∀ {kw : KW} {qs : List Addr}, ∀ q ∈ List.zipWith (fun (x : Str × List Str) q => if x.1 = n then q1 else q) kw qs, q = q1 ∨ q ∈ qs
  | [], _, q, h => by cases h
  | _ :: _, [], q, h => by cases h
  | x :: kw, r :: qs, q, h => by
    rw [List.zipWith_cons_cons] at h
    rcases List.mem_cons.mp h with e | e
    · by_cases c : x.1 = n
      · rw [if_pos c] at e; exact .inl e
      · rw [if_neg c] at e; exact .inr (by simp [e])
    · exact (repl_mem (kw := kw) q e).imp id (List.mem_cons_of_mem _)
theorem zip_no {n : Str} {q1 : Addr} : ∀ {kw : KW} {qs : List Addr}, n ∉ kw.map (·.1) → qs.length = kw.length → List.zipWith (fun (x : Str × List Str) q => if x.1 = n then q1 else q) kw qs = qs
  | [], [], _, _ => rfl
  | [], _ :: _, _, h => by cases h
  | _ :: _, [], _, h => by cases h
  | x :: kw, r :: qs, hn, h => by
    have h1 : ¬ x.1 = n := fun z => hn (by simp [z])
    have h2 : n ∉ kw.map (·.1) := fun z => hn (by simp only [List.map_cons, List.mem_cons]; exact .inr z)
    rw [List.zipWith_cons_cons, if_neg h1, zip_no h2 (by simpa using h)]
theorem repl_nd {n : Str} {q1 : Addr} : ∀ {kw : KW} {qs : List Addr}, (kw.map (·.1)).Nodup → qs.Nodup → q1 ∉ qs → qs.length = kw.length → (List.zipWith (fun (x : Str × List Str) q => if x.1 = n then q1 else q) kw qs).Nodup
  | [], _, _, _, _, _ => by simp
  | _ :: _, [], _, _, _, _ => by simp
  | x :: kw, r :: qs, hk, hq, hn, h => by
    rw [List.map_cons] at hk
    have hk' := List.nodup_cons.mp hk
    have hq' := List.nodup_cons.mp hq
    have hn' : q1 ≠ r ∧ q1 ∉ qs := by simpa using hn
    rw [List.zipWith_cons_cons]
    by_cases c : x.1 = n
    · rw [if_pos c, zip_no (by rw [← c]; exact hk'.1) (by simpa using h)]
      exact List.nodup_cons.mpr ⟨hn'.2, hq'.2⟩
    · rw [if_neg c]
      refine List.nodup_cons.mpr ⟨fun hm => ?_, repl_nd hk'.2 hq'.2 hn'.2 (by simpa using h)⟩
      rcases repl_mem (kw := kw) r hm with e | e
      · exact hn'.1 e.symm
      · exact hq'.1 e
theorem repl_at {n : Str} {q1 : Addr} {v : List Str} {kw : KW} {qs : List Addr} (h : qs.length = kw.length) {i : Nat} {x : Str × List Str} {q : Addr} (e1 : (dput kw n v)[i]? = some x) (e2 : (repl kw qs n q1)[i]? = some q) : (x = (n, v) ∧ q = q1) ∨ (kw[i]? = some x ∧ qs[i]? = some q) := by
  unfold repl at e2
  unfold dput at e1
  by_cases c : dhas kw n = true
  · rw [if_pos c] at e1 e2
    rw [List.getElem?_map] at e1
    obtain ⟨y, e3, e4⟩ := Option.map_eq_some_iff.mp e1
    have hi := (List.getElem?_eq_some_iff.mp e3).1
    have e5 : qs[i]? = some (qs[i]'(by omega)) := List.getElem?_eq_getElem (by omega)
    rw [List.getElem?_zipWith, e3, e5] at e2
    have e2 : (if y.1 = n then q1 else qs[i]'(by omega)) = q := Option.some.inj e2
    by_cases c2 : y.1 = n
    · rw [if_pos c2] at e4 e2
      exact .inl ⟨by rw [← e4, c2], e2.symm⟩
    · rw [if_neg c2] at e4 e2
      exact .inr ⟨by rw [e3, e4], by rw [e5, e2]⟩
  · rw [if_neg c] at e1 e2
    by_cases hi : i < kw.length
    · rw [List.getElem?_append_left hi] at e1
      rw [List.getElem?_append_left (by omega)] at e2
      exact .inr ⟨e1, e2⟩
    · rw [List.getElem?_append_right (by omega)] at e1 e2
      have hz : i - kw.length = 0 := by
        have := (List.getElem?_eq_some_iff.mp e1).1
        simp at this; omega
      rw [hz] at e1
      rw [h, hz] at e2
      simp at e1 e2
      exact .inl ⟨e1.symm, e2.symm⟩
def famP (kw : KW) (q1 : Addr) : Fm := ⟨fun K G H p qs => ∃ qs0, qs = q1 :: qs0 ∧ (famK kw).rel K G H p qs0 ∧ H q1 = some (.dK []), fun {K G G' H H' p qs} s hk ⟨qs0, e, h, h2⟩ => ⟨qs0, e, (famK kw).mono s (fun q hq => hk q (by
    rw [e]
    rcases List.mem_cons.mp hq with z | z
    · simp [z]
    · simp [z])) h, (hk q1 (by rw [e]; simp)).trans h2⟩⟩
/-- known[name] = {} -/
theorem ss_famnew (i : Nat) (hk : PR X B es a (Rp.str.at n)) (r : PSl X B (es.set i (.fam (famK (dput kw n [])))) sts O) (hu : X.A.units + 1 < cLine) (z : kw.length < 1000) (hnd : (kw.map (·.1)).Nodup) (hi : es[i]? = some (.fam (famK kw)) := by rfl) (hN : X.N[i]? = some x := by rfl)
    (hv : Vis X.env.scope x := by first | exact Or.inl rfl | exact Or.inr (Or.inl rfl) | exact Or.inr (Or.inr rfl)) (hd : (x == ("__debug__" : Str)) = false := by decide) (hcd : (x == ("__classdict__" : Str)) = false := by decide)
    (hs : swapsWith (.Dict [] [] lp) (some (.Subscript (.Name x np) a p')) pos.line X.env = pure false := by rfl) : PSl X B es (.Assign [.Subscript (.Name x np) a p'] (.Dict [] [] lp) pos :: sts) O :=
  ss_do (ps_dput hu (pe_var hN hv hd hcd) hk pe_dnewK hs)
    (fun D σ G H E q q1 hq1 => by
      have s1 := Stp.fresh E.same hq1 (.dK [])
      have E1 := E.step s1
      obtain ⟨p, qs, e1, ⟨f1, f2, f3, f4⟩, f5, f6, f7⟩ := E.getF hi
      have hne : ∀ y ∈ p :: qs, y ≠ q1 := fun y hy c => by
        obtain ⟨_, _, o, c2⟩ := f5 y hy
        rw [c, hq1] at c2; cases c2
      have hup : ∀ y ∈ p :: qs, upd H q1 (.dK []) y = H y := fun y hy => upd_ne (hne y hy)
      have E1' : EnvA X.K B (es.set i (.fam (famP kw q1))) σ G (upd H q1 (.dK [])) := by
        refine f7 (famP kw q1) (q1 :: qs) _ ⟨qs, rfl, (famK kw).mono (Same.refl _) hup ⟨f1, f2, f3, f4⟩, upd_same⟩ (fun y hy => ?_) (fun y hy => ?_) ?_ (fun b o _ hb => ?_)
        · rcases List.mem_cons.mp hy with c | c
          · subst c; exact .inr ⟨hq1, _, upd_same⟩
          · exact .inl c
        · obtain ⟨_, _, o, c⟩ := f5 y hy
          exact ⟨o, (hup y hy).trans c⟩
        · have f6' := List.nodup_cons.mp f6
          exact List.nodup_cons.mpr ⟨fun hm => (List.mem_cons.mp hm).elim (fun c => hne p (by simp) c) f6'.1, List.nodup_cons.mpr ⟨fun hm => hne q1 (by simp [hm]) rfl, f6'.2⟩⟩
        · rw [upd_ne (ne_of_none hb hq1)]; exact hb
      refine ⟨_, e1, G, E1, fun y G2 H2 s2 ⟨ey, zk⟩ => ?_⟩
      subst ey
      have E2 := E1'.step s2
      have hlt : i < es.length := (List.getElem?_eq_some_iff.mp hi).1
      obtain ⟨p2, qs2, e3, ⟨qs0, eq2, ⟨g1, g2, g3, g4⟩, g5⟩, g6, g7, g8⟩ := E2.getF (i := i) (F := famP kw q1) (by simp [hlt])
      rw [e1] at e3; cases e3
      subst eq2
      have hsl := sizeLine_eq
      have houtl : (outK kw qs0).length ≤ kw.length := by unfold outK; rw [List.length_zipWith]; omega
      refine ⟨p, _, rfl, DPut.k (k := Sum.inr n) g1 (by omega), ?_⟩
      have g7' := List.nodup_cons.mp g7
      have g7'' := List.nodup_cons.mp g7'.2
      have hpq : ∀ y ∈ q1 :: qs0, y ≠ p := fun y hy c => g7'.1 (c ▸ hy)
      have hupd : ∀ y ∈ q1 :: qs0, upd H2 p (.dK (putK (outK kw qs0) (Sum.inr n) (.ref q1))) y = H2 y := fun y hy => upd_ne (hpq y hy)
      have hmem : ∀ y ∈ repl kw qs0 n q1, y ∈ q1 :: qs0 := fun y hy => by
        unfold repl at hy
        split at hy
        · rcases repl_mem (kw := kw) y hy with c | c
          · simp [c]
          · simp [c]
        · rcases List.mem_append.mp hy with c | c
          · simp [c]
          · simp at c; simp [c]
      have E3 := g8 (famK (dput kw n [])) (repl kw qs0 n q1) (upd H2 p (.dK (putK (outK kw qs0) (Sum.inr n) (.ref q1)))) ⟨by rw [upd_same, repl_out g2], repl_len g2, fun k x0 q0 c1 c2 => ?_, ?_⟩ (fun y hy => .inl (hmem y hy)) (fun y hy => ?_) ?_ (fun b o hb hbo => ?_)
      · have e4 : (es.set i (.fam (famP kw q1))).set i (.fam (famK (dput kw n []))) = es.set i (.fam (famK (dput kw n []))) := List.set_set ..
        rw [e4] at E3
        exact q _ _ _ E3
      · rcases repl_at g2 c1 c2 with ⟨h1, h2⟩ | ⟨h1, h2⟩
        · subst h1; subst h2
          exact ⟨zk, [], (hupd _ (by simp)).trans g5, .nil, Nat.zero_le _⟩
        · obtain ⟨h3, es', h4, h5⟩ := g3 k x0 q0 h1 h2
          exact ⟨h3, es', (hupd _ (by simp [List.mem_of_getElem? h2])).trans h4, h5⟩
      · have := dput_len kw n ([] : List Str); omega
      · rcases List.mem_cons.mp hy with c | c
        · subst c; exact ⟨_, upd_same⟩
        · obtain ⟨_, _, o, h⟩ := g6 y (List.mem_cons_of_mem _ c)
          exact ⟨o, (hupd y c).trans h⟩
      · refine List.nodup_cons.mpr ⟨fun hm => hpq p (hmem p hm) rfl, ?_⟩
        unfold repl
        split
        · exact repl_nd hnd g7''.2 g7''.1 g2
        · rw [List.nodup_append]
          exact ⟨g7''.2, by simp, fun a ha b hb => by simp at hb; subst hb; exact fun c => g7''.1 (c ▸ ha)⟩
      · rw [upd_ne (fun c => hb (by rw [c]; simp))]; exact hbo) r
/-- known[name][text] = True -/
theorem ss_famput (i : Nat) {tx : Str} {b2 : Expr} {j : _} {vp sp : Pos} (hk : PR X B es a (Rp.str.at n)) (ht : PR X B es b2 (Rp.str.at tx)) (h : dget kw n = some ws) (hnt : tx ∉ ws) (hnd : (kw.map (·.1)).Nodup) (z : ws.length < sizeLine) (r : PSl X B (es.set i (.fam (famK (dput kw n (ws ++ [tx]))))) sts O) (hu : X.A.units + 1 < cLine) (hi : es[i]? = some (.fam (famK kw)) := by rfl) (hN : X.N[i]? = some x := by rfl)
    (hv : Vis X.env.scope x := by first | exact Or.inl rfl | exact Or.inr (Or.inl rfl) | exact Or.inr (Or.inr rfl)) (hd : (x == ("__debug__" : Str)) = false := by decide) (hcd : (x == ("__classdict__" : Str)) = false := by decide) (hsl : NoSl a := by exact fun _ _ => rfl)
    (hs : swapsWith (.Constant (.bool true) j vp) (some (.Subscript (.Subscript (.Name x np) a sp) b2 p')) pos.line X.env = pure false := by rfl) : PSl X B es (.Assign [.Subscript (.Subscript (.Name x np) a sp) b2 p'] (.Constant (.bool true) j vp) pos :: sts) O :=
  ss_do (ps_dput hu (pe_dget hu (pe_var hN hv hd hcd) hk hsl) ht pe_bl hs)
    (fun D σ G H E q => by
      obtain ⟨p, qs, e1, _⟩ := E.getF hi
      refine ⟨_, e1, G, E, fun y G2 H2 s2 ⟨e2, _⟩ => ?_⟩
      have E2 := E.step s2
      obtain ⟨p2, qs2, e3, ⟨f1, f2, f3, f4⟩, _⟩ := E2.getF hi
      rw [e1] at e3; cases e3
      obtain ⟨k, q1, g1, g2, g3⟩ := (out_val f2).1 ws h
      refine ⟨p, _, rfl, .inl ⟨_, .inr n, .inl f1, e2, g3.symm⟩, G2, E2, fun u G3 H3 s3 ⟨eu, zt⟩ => ?_⟩
      subst eu
      have E3 := E2.step s3
      obtain ⟨p3, qs3, e4, ⟨h1, h2, h3, h4⟩, h5, h6, h7⟩ := E3.getF hi
      rw [e1] at e4; cases e4
      have eqs : qs3 = qs2 := by
        have c := s3.hh _ _ f1
        rw [h1] at c
        injection c with c
        injection c with c
        exact out_inj h2 f2 c
      subst eqs
      obtain ⟨zk, es', w1, w2, w3⟩ := h3 k _ q1 g1 g2
      have hle : es'.length = ws.length := by rw [w2.length, List.length_map]
      refine ⟨q1, _, rfl, DPut.k (k := Sum.inr tx) w1 (by omega), ?_⟩
      have hq1 : q1 ∈ qs3 := List.mem_of_getElem? g2
      have h6' := List.nodup_cons.mp h6
      have hpq : p ≠ q1 := fun c => h6'.1 (c ▸ hq1)
      have hw : putK es' (Sum.inr tx) (.bl true) = putK es' (Sum.inr tx) (.bl true) := rfl
      have newWD : WD (upd H3 q1 (.dK (putK es' (Sum.inr tx) (.bl true)))) q1 (ws ++ [tx]) := by
        refine ⟨_, upd_same, ?_, by rw [List.length_append]; exact z⟩
        have := dput_p (K := X.K) (G := H3) (A := Rp.bl) (xs := ws.map fun w => (w, true)) w2 (k := tx) (v := .bl true) (a := true) rfl zt
        rw [dput_mk _ _ hnt] at this
        exact this
      have hh : dhas kw n = true := dhas_some.mpr ⟨ws, h⟩
      have E4 := h7 (famK (dput kw n (ws ++ [tx]))) qs3 (upd H3 q1 (.dK (putK es' (Sum.inr tx) (.bl true)))) ⟨?_, ?_, fun k' x0 q0 c1 c2 => ?_, ?_⟩ (fun y hy => .inl hy) (fun y hy => ?_) h6 (fun b o hb hbo => ?_)
      · exact q _ _ _ E4
      · rw [upd_ne hpq, out_keys (kw' := dput kw n (ws ++ [tx])) (kw := kw) (by rw [dput_keys, if_pos hh])]; exact h1
      · rw [dput_length, if_pos hh]; exact h2
      · unfold dput at c1
        rw [if_pos hh, List.getElem?_map] at c1
        obtain ⟨x1, d1, d2⟩ := Option.map_eq_some_iff.mp c1
        by_cases c : x1.1 = n
        · have hkk : k' = k := by
            have i1 := (List.getElem?_eq_some_iff.mp d1)
            have i2 := (List.getElem?_eq_some_iff.mp g1)
            have n1 : (kw.map (·.1))[k']? = some n := by rw [List.getElem?_map, d1]; exact congrArg some c
            have n2 : (kw.map (·.1))[k]? = some n := by rw [List.getElem?_map, g1]; rfl
            exact (List.getElem?_inj (by rw [List.length_map]; exact i1.1) hnd).mp (n1.trans n2.symm)
          subst hkk
          rw [g2] at c2; cases c2
          rw [if_pos c] at d2
          subst d2
          rw [g1] at d1; cases d1
          exact ⟨zk, newWD⟩
        · rw [if_neg c] at d2
          subst d2
          obtain ⟨d3, es2, d4, d5⟩ := h3 k' x1 q0 d1 c2
          refine ⟨d3, es2, ?_, d5⟩
          have hne : q0 ≠ q1 := fun e => by
            subst e
            have i1 := (List.getElem?_eq_some_iff.mp c2).1
            have := (List.getElem?_inj i1 h6'.2).mp (c2.trans g2.symm)
            subst this
            rw [g1] at d1; cases d1
            exact c rfl
          rw [upd_ne hne]; exact d4
      · rw [dput_length, if_pos hh]; exact h4
      · by_cases c : y = q1
        · subst c; exact ⟨_, upd_same⟩
        · obtain ⟨_, _, o, d⟩ := h5 y hy
          exact ⟨o, by rw [upd_ne c]; exact d⟩
      · rw [upd_ne (fun c => hb (by rw [c]; simp [hq1]))]; exact hbo) r
/-- f(.., known, ..) that only reads known -/
theorem pr_callJ {k : Nat} {as : List Expr} {parts : List Str} {d : List Str} {f0 : List Str × KW → List Str} {pre : List Str × KW → Prop} {fx : Str} {fps : List Str} (D : Df X.prog X.w X.K X.mg X.base CX0 fx fps k (spI X.K (ι := List Str × KW) (fun i => [.dat Rp.str.tup i.1, .dat rWs.dct i.2, .dat Rp.int 2]) pre Rp.str.lst f0)) (hr : Room k X.A)
    (ha : PAr X B es (e :: as) [Rp.str.tup.at parts, rF (famK kw), Rp.int.at 2]) (hp : pre (parts, kw)) (hd : f0 (parts, kw) = d := by rfl) (hg : Gl X fx := by rfl) (hdb : (fx == ("__debug__" : Str)) = false := by decide) (he : starEach (e :: as) X.env = (false, eval e X.env) :: starEach as X.env := by rfl) (hpl : (backTo pos (starEach as X.env)).any (·.1) = false := by rfl) :
    PR X B es (.Call (.Name fx p) (e :: as) [] pos) (Rp.str.lst.at d) := by
  subst hd
  obtain ⟨f, fd, F, m, kp, b⟩ := D.ex
  exact pr_of (pe_call F hr hg m kp b .nil pass0 ha hdb he hpl) fun σ G H Q E q => ⟨G, E, fun vs G1 H1 s1 r1 => by
    obtain ⟨v1, v2, v3, rfl, ra1, ⟨p2, qs, rfl, fr, ff⟩, ra3⟩ := al3 r1
    show spI X.K (ι := List Str × KW) (fun i => [.dat Rp.str.tup i.1, .dat rWs.dct i.2, .dat Rp.int 2]) pre Rp.str.lst f0 ([v1, .ref p2, v3] ++ []) H1 Q E0
    rw [List.append_nil]
    have dct := famK_dict fr
    obtain ⟨c1, c2, c3, c4⟩ := fr
    have sG : Same G1 (fun z => if z ∈ p2 :: qs then H1 z else G1 z) := fun z o hz => by
      have : z ∉ p2 :: qs := fun hm => by rw [(ff z hm).1] at hz; cases hz
      show (if z ∈ p2 :: qs then H1 z else G1 z) = some o
      rw [if_neg this]; exact hz
    have sH : Same (fun z => if z ∈ p2 :: qs then H1 z else G1 z) H1 := fun z o hz => by
      have hz : (if z ∈ p2 :: qs then H1 z else G1 z) = some o := hz
      split at hz
      · exact hz
      · exact s1.gh z o hz
    have inG : ∀ z ∈ p2 :: qs, (fun z => if z ∈ p2 :: qs then H1 z else G1 z) z = H1 z := fun z hz => if_pos hz
    have hsl := sizeLine_eq
    refine ⟨_, (parts, kw), sH, .cons (Rp.str.tup.mono sG ra1) (.cons ?_ (.cons ra3 .nil)), hp, fun v G2 H2 s2 ⟨pr, us, ev, g1, g2, g3⟩ => ?_⟩
    · refine ⟨p2, outK kw qs, rfl, .inl ((inG p2 (by simp)).trans c1), ?_, by show kw.length ≤ sizeLine; omega⟩
      have key : ∀ (kw : KW) (qs' : List Addr), qs'.length = kw.length → (∀ z ∈ qs', z ∈ qs) → (∀ (i : Nat) x q, kw[i]? = some x → qs'[i]? = some q → SOk x.1 ∧ WD H1 q x.2) → Paired (fun (d : Key × V) (x : Str × List Str) => d.1 = Sum.inr x.1 ∧ rWs.rel X.K (fun z => if z ∈ p2 :: qs then H1 z else G1 z) d.2 x.2 ∧ SOk x.1) (outK kw qs') kw := by
        intro kw
        induction kw with
        | nil => intro qs' _ _ _; exact .nil
        | cons x kw ih =>
          intro qs' hl hm hw
          cases qs' with
          | nil => cases hl
          | cons q1 qs' =>
            obtain ⟨w1, es', w2, w3, w4⟩ := hw 0 x q1 rfl rfl
            refine .cons ⟨rfl, ⟨q1, es', rfl, .inl ((inG q1 (by simp [hm q1 (by simp)])).trans w2), w3, by rw [List.length_map]; exact w4⟩, w1⟩ (ih qs' (by simpa using hl) (fun z hz => hm z (by simp [hz])) fun i x q e1 e2 => hw (i + 1) x q (by simpa using e1) (by simpa using e2))
      exact key kw qs c2 (fun z hz => hz) c3
    · have hG2 : ∀ z ∈ p2 :: qs, ∃ es, G2 z = some (.dK es) := fun z hz => by
        obtain ⟨es', h⟩ := dct z hz
        exact ⟨es', s2.gg z _ ((inG z hz).trans h)⟩
      have hr' : pr ∉ p2 :: qs := fun hm => by
        obtain ⟨es', h⟩ := hG2 pr hm
        rw [g1] at h; cases h
      refine q v (fun z => if z ∈ p2 :: qs then none else G2 z) H2 (s1.trans ⟨fun z o hz => ?_, fun z o hz => ?_, s2.hh, fun z o hz => ?_⟩) ⟨pr, us, ev, ?_, g2, g3⟩
      · have hn : z ∉ p2 :: qs := fun hm => by rw [(ff z hm).1] at hz; cases hz
        show (if z ∈ p2 :: qs then none else G2 z) = some o
        rw [if_neg hn]; exact s2.gg z o (sG z o hz)
      · have hz : (if z ∈ p2 :: qs then none else G2 z) = some o := hz
        split at hz
        · cases hz
        · exact s2.gh z o hz
      · have hz : (if z ∈ p2 :: qs then none else G2 z) = some o := hz
        split at hz
        · cases hz
        · rename_i hn
          rcases s2.nw z o hz with y | y
          · have y : (if z ∈ p2 :: qs then H1 z else G1 z) = some o := y
            rw [if_neg hn] at y; exact .inl y
          · exact .inr y
      · show (if pr ∈ p2 :: qs then none else G2 pr) = _
        rw [if_neg hr']; exact g1⟩
end
end Rw

/-! RwLw: _law_words -/
namespace Rw
open PySem PyProof.Rows L2
def LangS (g : Gram) (p w : Str) : Prop := ∃ t, fitsB g p t = true ∧ lets t = w.cps.toList
inductive Cat (kw : KW) : List Str → List Nat → Prop where
  | nil : Cat kw [] []
  | cons {p m : Str} {ps : List Str} {r : List Nat} : m ∈ someOf kw p → Cat kw ps r → Cat kw (p :: ps) (m.cps.toList ++ r)
theorem str_ext {a b : Str} (h : a.cps.toList = b.cps.toList) : a = b := by
  have := Array.ext' h
  cases a; cases b
  exact congrArg Str.mk this
theorem joined_iff {kw : KW} (K : KwOk kw) : ∀ (ps found : List Str), (∀ p ∈ ps, PartOk kw p) → WordsOk found → ∀ v, v ∈ ps.foldl (joinStep kw 2) found ↔ ∃ t ∈ found, ∃ r, Cat kw ps r ∧ v.cps.toList = t.cps.toList ++ r ∧ v.length ≤ 2
  | [], found, _, hf, v => by
    constructor
    · intro h; exact ⟨v, h, [], .nil, by simp, (hf.ok v h).1⟩
    · rintro ⟨t, ht, r, hc, e, _⟩
      cases hc
      rw [List.append_nil] at e
      rw [str_ext e]; exact ht
  | p :: ps, found, hp, hf, v => by
    obtain ⟨h1, h2⟩ := joinStep_spec K hf (hp p (by simp))
    rw [List.foldl_cons, joined_iff K ps _ (fun q hq => hp q (by simp [hq])) h1 v]
    constructor
    · rintro ⟨t', ht', r, hc, e, hv⟩
      obtain ⟨t, ht, m, hm, e2, _⟩ := (h2 t').mp ht'
      subst e2
      refine ⟨t, ht, m.cps.toList ++ r, .cons hm hc, ?_, hv⟩
      rw [e]
      show (t.cps ++ m.cps).toList ++ r = _
      rw [Array.toList_append, List.append_assoc]
    · rintro ⟨t, ht, r, hc, e, hv⟩
      cases hc with
      | cons hm hc =>
        rename_i m r'
        have hl : v.cps.toList.length = v.length := Array.length_toList
        have hl2 : t.cps.toList.length = t.length := Array.length_toList
        have hl3 : m.cps.toList.length = m.length := Array.length_toList
        have hlen := congrArg List.length e
        rw [List.length_append, List.length_append, hl, hl2, hl3] at hlen
        refine ⟨t ++ m, (h2 _).mpr ⟨t, ht, m, hm, rfl, by omega⟩, r', hc, ?_, hv⟩
        rw [e]
        show _ = (t.cps ++ m.cps).toList ++ r'
        rw [Array.toList_append, List.append_assoc]
theorem joined_mem {kw : KW} (K : KwOk kw) {ps : List Str} (hp : ∀ p ∈ ps, PartOk kw p) (v : Str) : v ∈ joined kw 2 ps ↔ Cat kw ps v.cps.toList ∧ v.length ≤ 2 := by
  unfold joined
  rw [joined_iff K ps [""] hp empty_ok]
  constructor
  · rintro ⟨t, ht, r, hc, e, hv⟩
    simp at ht; subst ht
    have e : v.cps.toList = r := by rw [e]; rfl
    exact ⟨e ▸ hc, hv⟩
  · rintro ⟨hc, hv⟩
    exact ⟨"", by simp, _, hc, rfl, hv⟩
structure KInv (g : Gram) (kw : KW) : Prop where
  ok : KwOk kw
  keys : ∀ n, dhas kw n = true ↔ n ∈ g.map (·.1)
  sound : ∀ n ws, dget kw n = some ws → ∀ w ∈ ws, LangS g n w
structure WL (g : Gram) : Prop where
  wf : WF g
  abc : ∀ r ∈ g, ∀ p ∈ r.2, isLetter p = true → isAbc p = true
theorem name_letter {s : Str} (h : isName s = true) : isLetter s = false := by
  obtain ⟨⟨l⟩⟩ := s
  match l, h with
  | [c], h =>
    have h : (decide (([] : List Nat).length ≤ 7) && decide (c ∈ capsL) && ([] : List Nat).all fun d => decide (d ∈ capsL) || decide (d ∈ figsL)) = true := h
    simp only [Bool.and_eq_true, decide_eq_true_eq] at h
    have h1 := h.1.2
    show decide (c ∈ alphaL) = false
    rw [decide_eq_false_iff_not]
    unfold capsL at h1
    unfold alphaL
    rw [List.mem_range'] at h1 ⊢
    rintro ⟨k, hk, e⟩
    obtain ⟨k2, hk2, e2⟩ := h1
    omega
  | _ :: _ :: _, _ => rfl
section
variable {g : Gram} {kw : KW}
theorem KInv.partOk (W : WL g) (I : KInv g kw) {r : Rule} (hr : r ∈ g) {p : Str} (hp : p ∈ r.2) : PartOk kw p ∧ (dhas kw p = false → isLetter p = true) := by
  rcases W.wf.part r hr p hp with e | e
  · have hn : dhas kw p = false := by
      cases c : dhas kw p with
      | false => rfl
      | true =>
        obtain ⟨r', hr', e2⟩ := List.mem_map.mp ((I.keys p).mp c)
        have := name_letter (W.wf.name r' hr')
        rw [e2, e] at this; cases this
    exact ⟨.inr ⟨W.abc r hr p hp e, hn⟩, fun _ => e⟩
  · have := (I.keys p).mpr e.2
    exact ⟨.inl this, fun c => by rw [this] at c; cases c⟩
theorem cat_sound {ps : List Str} (I : KInv g kw) (hl : ∀ p ∈ ps, dhas kw p = false → isLetter p = true) {r : List Nat} (h : Cat kw ps r) : ∃ ts, fitsL g ps ts = true ∧ letsL ts = r := by
  induction h with
  | nil => exact ⟨[], rfl, rfl⟩
  | @cons p m ps r hm _ ih =>
    obtain ⟨ts, h1, h2⟩ := ih fun q hq => hl q (by simp [hq])
    have : LangS g p m := by
      unfold someOf at hm
      cases e : dget kw p with
      | some ws => rw [e] at hm; exact I.sound p ws e m hm
      | none =>
        rw [e] at hm
        have hm : m = p := by simpa using hm
        subst hm
        have hn : dhas kw m = false := by
          cases c : dhas kw m with
          | false => rfl
          | true => obtain ⟨v, hv⟩ := dhas_some.mp c; rw [e] at hv; cases hv
        exact ⟨.leaf m, by rw [fitsB, hl m (by simp) hn]; simp, rfl⟩
    obtain ⟨t, h3, h4⟩ := this
    exact ⟨t :: ts, by rw [fitsL, h3, h1]; rfl, by rw [letsL, h4, h2]⟩
theorem joined_sound (W : WL g) (I : KInv g kw) {r : Rule} (hr : r ∈ g) {w : Str} (hw : w ∈ joined kw 2 r.2) : LangS g r.1 w ∧ okW w := by
  have hp : ∀ p ∈ r.2, PartOk kw p := fun p hp => (I.partOk W hr hp).1
  obtain ⟨hc, hv⟩ := (joined_mem I.ok hp w).mp hw
  obtain ⟨ts, h1, h2⟩ := cat_sound I (fun p hp => (I.partOk W hr hp).2) hc
  obtain ⟨k, hk, e⟩ := List.mem_iff_getElem.mp hr
  have hg : gi g (k : Int) = r := by rw [gi_nat, List.getD, List.getElem?_eq_getElem hk, e]; rfl
  refine ⟨⟨.node (k : Int) ts, ?_, by rw [lets, h2]⟩, (joined_ok I.ok r.2 [""] hp empty_ok).ok w hw⟩
  rw [fitsB, hg, h1, decide_eq_true (show (0 : Int) ≤ (k : Int) by omega), decide_eq_true (show (k : Int) < (g.length : Int) by omega), decide_eq_true rfl]; rfl
def ClosedW (g : Gram) (kw : KW) : Prop := ∀ r ∈ g, ∀ w ∈ joined kw 2 r.2, ∃ ws, dget kw r.1 = some ws ∧ w ∈ ws
theorem letter_someOf (W : WL g) (I : KInv g kw) {p : Str} (h : isLetter p = true) : someOf kw p = [p] := by
  unfold someOf
  cases e : dget kw p with
  | none => rfl
  | some v =>
    obtain ⟨r', hr', e2⟩ := List.mem_map.mp ((I.keys p).mp (dhas_some.mpr ⟨v, e⟩))
    have := name_letter (W.wf.name r' hr')
    rw [e2, h] at this; cases this
mutual
theorem words_full (W : WL g) (I : KInv g kw) (C : ClosedW g kw) : ∀ (t : Tr) (p : Str), fitsB g p t = true → (lets t).length ≤ 2 → ∃ w ∈ someOf kw p, w.cps.toList = lets t
  | .leaf s, p, h, _ => by
    rw [fitsB, Bool.and_eq_true, decide_eq_true_eq] at h
    obtain ⟨rfl, h⟩ := h
    exact ⟨s, by rw [letter_someOf W I h]; simp, rfl⟩
  | .node n ts, p, h, hl => by
    rw [fitsB, Bool.and_eq_true, Bool.and_eq_true, Bool.and_eq_true, decide_eq_true_eq, decide_eq_true_eq, decide_eq_true_eq] at h
    obtain ⟨⟨⟨h1, h2⟩, h3⟩, h4⟩ := h
    have hr := gi_mem h1 h2
    rw [lets] at hl ⊢
    have hc := wordsL_full W I C ts _ h4 hl
    have hp : ∀ p ∈ (gi g n).2, PartOk kw p := fun p hp => (I.partOk W hr hp).1
    have hj : (⟨(letsL ts).toArray⟩ : Str) ∈ joined kw 2 (gi g n).2 := (joined_mem I.ok hp _).mpr ⟨by simpa using hc, by show (letsL ts).toArray.size ≤ 2; simpa using hl⟩
    obtain ⟨ws, e, hm⟩ := C _ hr _ hj
    rw [h3] at e
    refine ⟨⟨(letsL ts).toArray⟩, ?_, rfl⟩
    unfold someOf
    rw [e]; exact hm
theorem wordsL_full (W : WL g) (I : KInv g kw) (C : ClosedW g kw) : ∀ (ts : List Tr) (ps : List Str), fitsL g ps ts = true → (letsL ts).length ≤ 2 → Cat kw ps (letsL ts)
  | [], [], _, _ => by rw [letsL]; exact .nil
  | [], _ :: _, h, _ => by rw [fitsL] at h; cases h
  | _ :: _, [], h, _ => by rw [fitsL] at h; cases h
  | t :: ts, p :: ps, h, hl => by
    rw [fitsL, Bool.and_eq_true] at h
    rw [letsL, List.length_append] at hl
    obtain ⟨w, hw, e⟩ := words_full W I C t p h.1 (by omega)
    have := wordsL_full W I C ts ps h.2 (by omega)
    rw [letsL, ← e]
    exact .cons hw this
end
def total (kw : KW) : Nat := (kw.map fun kv => kv.2.length).sum
theorem total_le (h : KwOk kw) : total kw ≤ 13 * kw.length := by
  have h' := h.ok
  clear h
  unfold total
  induction kw with
  | nil => simp
  | cons kv kw ih =>
    have h1 := okW_len (h' kv (by simp)).nd (h' kv (by simp)).ok
    have h2 := ih fun x hx => h' x (by simp [hx])
    rw [List.map_cons, List.sum_cons, List.length_cons]
    omega
theorem total_put {n w : Str} {ws : List Str} (hnd : (kw.map (·.1)).Nodup) (h : dget kw n = some ws) : total (dput kw n (ws ++ [w])) = total kw + 1 := by
  have hh : dhas kw n = true := dhas_some.mpr ⟨ws, h⟩
  unfold dput
  rw [if_pos hh]
  clear hh
  unfold total
  induction kw with
  | nil => cases h
  | cons kv kw ih =>
    rw [List.map_cons] at hnd
    have hnd' := List.nodup_cons.mp hnd
    rw [dget_cons] at h
    rw [List.map_cons, List.map_cons, List.sum_cons, List.map_cons, List.sum_cons]
    by_cases c : kv.1 = n
    · rw [if_pos c] at h; cases h
      have hno : kw.map (fun kv' => if kv'.1 = n then (kv'.1, kv.2 ++ [w]) else kv') = kw := by
        rw [List.map_congr_left (g := id), List.map_id]
        intro x hx
        have : ¬ x.1 = n := fun q => hnd'.1 (List.mem_map.mpr ⟨x, hx, by rw [q, c]⟩)
        rw [if_neg this]; rfl
      rw [hno, if_pos c]
      show (kv.2 ++ [w]).length + _ = _
      rw [List.length_append, List.length_singleton]; omega
    · rw [if_neg c] at h
      rw [ih hnd'.2 h, if_neg c]; omega
theorem KInv.len (I : KInv g kw) : kw.length ≤ g.length := by
  have := nodup_le (m := g.map (·.1)) I.ok.nd fun k hk => (I.keys k).mp (dhas_mem.mpr hk)
  simpa using this
theorem KInv.put {n w : Str} {ws : List Str} (I : KInv g kw) (h : dget kw n = some ws) (hw : LangS g n w) (ho : okW w) (hn : w ∉ ws) : KInv g (dput kw n (ws ++ [w])) := by
  have hh : dhas kw n = true := dhas_some.mpr ⟨ws, h⟩
  refine ⟨⟨dput_nd I.ok.nd, fun kv hkv => ?_⟩, fun m => ?_, fun m vs hv v hvm => ?_⟩
  · have hkv2 : dget (dput kw n (ws ++ [w])) kv.1 = some kv.2 := by
      have nd := dput_nd (k := n) (v := ws ++ [w]) I.ok.nd
      generalize dput kw n (ws ++ [w]) = l at hkv nd
      clear h hh hw ho hn I
      induction l with
      | nil => cases hkv
      | cons x l ih =>
        rw [List.map_cons] at nd
        have nd' := List.nodup_cons.mp nd
        rw [dget_cons]
        rcases List.mem_cons.mp hkv with e | e
        · rw [if_pos (by rw [e]), e]
        · rw [if_neg (fun q => nd'.1 (by rw [q]; exact List.mem_map.mpr ⟨kv, e, rfl⟩))]
          exact ih e nd'.2
    rw [dget_dput] at hkv2
    by_cases c : n = kv.1
    · rw [if_pos c] at hkv2
      have := Option.some.inj hkv2
      rw [← this]
      have h0 := I.ok.ok _ (dget_mem h)
      refine ⟨?_, fun v hv => ?_⟩
      · rw [List.nodup_append]
        exact ⟨h0.nd, by simp, fun a ha b hb => by simp at hb; subst hb; exact fun e => hn (e ▸ ha)⟩
      · rcases List.mem_append.mp hv with e | e
        · exact h0.ok v e
        · simp at e; rw [e]; exact ho
    · rw [if_neg c] at hkv2
      exact I.ok.ok _ (dget_mem hkv2)
  · rw [dhas_dput_iff, I.keys]
    exact ⟨fun q => q.elim (fun e => e ▸ (I.keys n).mp hh) id, .inr⟩
  · rw [dget_dput] at hv
    by_cases c : n = m
    · rw [if_pos c] at hv; cases hv
      subst c
      rcases List.mem_append.mp hvm with e | e
      · exact I.sound n ws h v e
      · simp at e; rw [e]; exact hw
    · rw [if_neg c] at hv
      exact I.sound m vs hv v hvm
end
def WPost (g : Gram) (ws : List Str) : Prop := ws.Nodup ∧ sortedS ws = true ∧ (∀ w ∈ ws, okW w) ∧ ∀ w, w ∈ ws ↔ w.length ≤ 2 ∧ LangS g (gi g 0).1 w
section
variable (P : Program) (w : World) (K : PySem.W.Frag) (mg : Str → Option Value) (base : Heap)
abbrev D_words := Df P w K mg base CX0 "_law_words" ["grammar", "most"] 2 (spR K (ι := Gram) (fun g => [.dat rGram g, .dat Rp.int 2]) WL Rp.str.lst WPost)
end
section
variable {X : Cx} {B : Bs} {es : List Sl} {e : Expr} {pos p : Pos}
theorem pr_sortedS {xs : List Str} (ha : PR X B es e (rL Rp.str xs)) (h64 : xs.length < 64) (hm : X.mg "sorted" = none) (hg : Gl X "sorted" := by rfl) (hn : ("sorted" : Str) ≠ "__name__" := by decide) (he : starEach (e :: []) X.env = (false, eval e X.env) :: starEach [] X.env := by rfl) (hpl : (backTo pos (starEach [] X.env)).any (·.1) = false := by rfl) :
    PR X B es (.Call (.Name "sorted" p) [e] [] pos) (rX Rp.str.lst (fun ys => ys.Perm xs ∧ sortedS ys = true)) :=
  pr_of (pe_callB cr_sortedS hg hm (by decide +kernel) (par_cons ha par_nil he) hn (by decide) he hpl) fun σ G H Q E q => ⟨G, E, fun vs G1 H1 s1 r1 => by
    obtain ⟨v, rfl, p, us, e, h1, r, z⟩ := al1 r1
    have ok : ∀ y ∈ xs, SOk y := fun y hy => by
      obtain ⟨k, hk, ek⟩ := List.mem_iff_getElem.mp hy
      obtain ⟨a, _, _, b⟩ := pget r (List.getElem?_eq_getElem hk)
      rw [ek] at b; exact b
    have eu := strs_of r
    subst eu
    refine ⟨p, xs, by rw [e], SqL.of h1, h64, fun ys l hp hs hl => q _ _ _ (s1.trans (Stp.new s1.gh hl _)) ⟨ys, ⟨hp, hs⟩, lst_new s1.gh hl (strs_p fun y hy => ok y (hp.mem_iff.mp hy)) ?_⟩⟩
    rw [hp.length_eq]; exact z⟩
end
section
variable {P : Program} {w : World} {K : PySem.W.Frag} {mg : Str → Option Value} {base : Heap}
theorem ok_words (T : Top K mg "_law_words" st__law_words ["grammar", "most"]) (M : Blt mg) (D1 : D_joined P w K mg base) : D_words P w K mg base := T.df fun f fd F => by
  refine fn_rel F sc__law_words (fun _ => rfl) no2 fun g W cdv Aa outer sh H E B hr => ?_
  have W : WL g := W
  have hl := W.wf.le
  have hpos := W.wf.pos
  show PSl _ _ [.dat rGram g, .dat Rp.int 2, .un, .un, .un, .un, .un, .un] _ _
  refine ss_fam0 2 ?_ sc__law_words.nd
  refine ss_for (fun i es => ∃ (kw : KW) (a3 : Sl), (kw.map (·.1)).Nodup ∧ (∀ kv ∈ kw, kv.2 = []) ∧ kw.length ≤ i ∧ (∀ n, dhas kw n = true ↔ n ∈ (g.take i).map (·.1)) ∧ es = [.dat rGram g, .dat Rp.int 2, .fam (famK kw), a3, .un, .un, .un, .un])
    (it_list (pr_var 0)) (tg_name 3 sc__law_words.nd) ⟨[], .un, List.nodup_nil, by simp, Nat.zero_le _, fun n => by simp [dhas], rfl⟩ ?_ ?_ PassesOwn.never rfl
  · rintro B' i r _ hi ⟨kw, a3, k1, k2, k3, k4, rfl⟩
    have hil := (List.getElem?_eq_some_iff.mp hi).1
    show PSl _ _ [.dat rGram g, .dat Rp.int 2, .fam (famK kw), .dat rRule r, .un, .un, .un, .un] _ _
    refine ss_famnew 2 (pr_ix (pr_var 3) pr_int ix_P0) (ss_nil ⟨dput kw r.1 [], .dat rRule r, dput_nd k1, fun kv hkv => ?_, ?_, fun n => ?_, rfl⟩) (hu1 hr) (by omega) k1
    · unfold dput at hkv
      split at hkv
      · obtain ⟨x, hx, e⟩ := List.mem_map.mp hkv
        by_cases c : x.1 = r.1
        · rw [if_pos c] at e; rw [← e]
        · rw [if_neg c] at e; rw [← e]; exact k2 x hx
      · rcases List.mem_append.mp hkv with e | e
        · exact k2 kv e
        · simp at e; rw [e]
    · have := dput_len kw r.1 ([] : List Str); omega
    · rw [dhas_dput_iff, k4, take_succ hi, List.map_append, List.mem_append]
      simp only [List.map_cons, List.map_nil, List.mem_singleton]
      exact ⟨fun q => q.elim (fun e => .inr e.symm) .inl, fun q => q.elim .inr fun e => .inl e.symm⟩
  rintro _ ⟨kw0, a3, k1, k2, k3, k4, rfl⟩
  rw [List.take_length] at k4
  have I0 : KInv g kw0 := ⟨⟨k1, fun kv hkv => by rw [k2 kv hkv]; exact ⟨List.nodup_nil, fun w hw => by cases hw⟩⟩, k4, fun n ws h w hw => by
    have : ws = [] := k2 _ (dget_mem h)
    rw [this] at hw; cases hw⟩
  refine ss_set 4 pr_bl ?_ sc__law_words.nd
  show PSl _ _ [.dat rGram g, .dat Rp.int 2, .fam (famK kw0), a3, .dat Rp.bl true, .un, .un, .un] _ _
  refine ss_while (n0 := 600) (fun n es => ∃ (kw : KW) (flag : Bool) (a5 a6 a7 : Sl), KInv g kw ∧ ((flag = true ∧ n + total kw = 600) ∨ (flag = false ∧ ClosedW g kw)) ∧ n ≤ 600 ∧ es = [.dat rGram g, .dat Rp.int 2, .fam (famK kw), a3, .dat Rp.bl flag, a5, a6, a7])
    ⟨kw0, true, .un, .un, .un, I0, .inl ⟨rfl, ?_⟩, Nat.le_refl _, rfl⟩ ?_ PassesOwn.never
  · have : total kw0 = 0 := by
      unfold total
      clear I0 k1 k3 k4
      induction kw0 with
      | nil => rfl
      | cons kv kw ih => rw [List.map_cons, List.sum_cons, k2 kv (by simp), ih fun x hx => k2 x (by simp [hx])]; rfl
    omega
  rintro B' n _ ⟨kw, flag, a5, a6, a7, I1, hfl, hn, rfl⟩
  refine ⟨flag, pb_val (pr_var 4), fun hf => ?_, fun hf => ?_⟩
  · subst hf
    have hfl : n + total kw = 600 := by
      rcases hfl with ⟨_, h⟩ | ⟨h, _⟩
      · exact h
      · cases h
    have ht13 := total_le I1.ok
    have hkl := I1.len
    refine ss_set 4 pr_bl ?_ sc__law_words.nd
    refine ss_for (fun i es => ∃ (kw' : KW) (flag : Bool) (a5 a6 a7 : Sl), KInv g kw' ∧ ((flag = true ∧ total kw < total kw') ∨ (flag = false ∧ kw' = kw ∧ ∀ r ∈ g.take i, ∀ w ∈ joined kw 2 r.2, ∃ ws, dget kw r.1 = some ws ∧ w ∈ ws)) ∧ es = [.dat rGram g, .dat Rp.int 2, .fam (famK kw'), a3, .dat Rp.bl flag, a5, a6, a7])
      (it_list (pr_var 0)) (tg_pair 5 6 rfl sc__law_words.nd) ⟨kw, false, a5, a6, a7, I1, .inr ⟨rfl, rfl, by simp⟩, rfl⟩ ?_ ?_ PassesOwn.never rfl
    · rintro B'' i r _ hi ⟨kw1, flag, a5, a6, a7, I2, hst, rfl⟩
      have hr2 : r ∈ g := List.mem_of_getElem? hi
      have hp : ∀ p ∈ r.2, PartOk kw1 p := fun p hp => (I2.partOk W hr2 hp).1
      have jok := joined_ok I2.ok r.2 [""] hp empty_ok
      show PSl _ _ [.dat rGram g, .dat Rp.int 2, .fam (famK kw1), a3, .dat Rp.bl flag, .dat Rp.str r.1, .dat Rp.str.tup r.2, a7] _ _
      refine ss_for (fun j es => ∃ (kw' : KW) (flag' : Bool) (a7 : Sl), KInv g kw' ∧ ((flag' = true ∧ total kw < total kw') ∨ (flag' = false ∧ flag = false ∧ kw' = kw1 ∧ ∀ w ∈ (joined kw1 2 r.2).take j, ∃ ws, dget kw1 r.1 = some ws ∧ w ∈ ws)) ∧ es = [.dat rGram g, .dat Rp.int 2, .fam (famK kw'), a3, .dat Rp.bl flag', .dat Rp.str r.1, .dat Rp.str.tup r.2, a7])
        (it_list (pr_callJ D1 (hr.mono (by decide)) (par_cons (pr_var 6) (par_cons (pr_fam 2) (par_cons (pr_var 1) par_nil))) ⟨I2.ok, hp⟩)) (tg_name 7 sc__law_words.nd) ⟨kw1, flag, a7, I2, ?_, rfl⟩ ?_ ?_ PassesOwn.never rfl
      · rcases hst with ⟨h1, h2⟩ | ⟨h1, h2, _⟩
        · exact .inl ⟨h1, h2⟩
        · exact .inr ⟨h1, h1, rfl, by simp⟩
      · rintro B''' j tx _ hj ⟨kw2, flag', a7, I3, hst2, rfl⟩
        have hj : (joined kw1 2 r.2)[j]? = some tx := hj
        have hjm : tx ∈ joined kw1 2 r.2 := List.mem_of_getElem? hj
        obtain ⟨hlang, hokw⟩ := joined_sound W I2 hr2 hjm
        obtain ⟨ws, hws⟩ := dhas_some.mp ((I3.keys r.1).mpr (List.mem_map.mpr ⟨r, hr2, rfl⟩))
        have hwk := I3.ok.ok _ (dget_mem hws)
        have hwl := okW_len hwk.nd hwk.ok
        show PSl _ _ [.dat rGram g, .dat Rp.int 2, .fam (famK kw2), a3, .dat Rp.bl flag', .dat Rp.str r.1, .dat Rp.str.tup r.2, .dat Rp.str tx] _ _
        refine ss_if2 (pb_eq (pb_dni (hu1 hr) (pr_var 7) (pr_famget 2 (pr_var 5) hws (hu1 hr))) (by rw [dhas_mk])) (fun c => ?_) (fun c => ?_)
        · have c : tx ∉ ws := by simpa using c
          refine ss_famput 2 (pr_var 5) (pr_var 7) hws c I3.ok.nd (smallL (by have hwl : ws.length ≤ 13 := hwl; omega)) ?_ (hu1 hr)
          refine ss_set 4 pr_bl (ss_nil (ss_nil ⟨dput kw2 r.1 (ws ++ [tx]), true, .dat Rp.str tx, I3.put hws hlang hokw c, .inl ⟨rfl, ?_⟩, rfl⟩)) sc__law_words.nd
          rw [total_put I3.ok.nd hws]
          rcases hst2 with ⟨_, h⟩ | ⟨_, h1, h2, _⟩
          · omega
          · subst h2
            rcases hst with ⟨h3, _⟩ | ⟨_, h4, _⟩
            · rw [h1] at h3; cases h3
            · subst h4; omega
        · have c : tx ∈ ws := by simpa using c
          refine ss_nil (ss_nil ⟨kw2, flag', .dat Rp.str tx, I3, ?_, rfl⟩)
          rcases hst2 with h | ⟨h1, h2, h3, h4⟩
          · exact .inl h
          · refine .inr ⟨h1, h2, h3, fun v hv => ?_⟩
            rw [take_succ hj] at hv
            rcases List.mem_append.mp hv with q | q
            · exact h4 v q
            · simp at q; subst q
              subst h3
              exact ⟨ws, hws, c⟩
      · rintro _ ⟨kw2, flag', a7, I3, hst2, rfl⟩
        refine ss_nil ⟨kw2, flag', _, _, _, I3, ?_, rfl⟩
        rcases hst2 with h | ⟨h1, h2, h3, h4⟩
        · exact .inl h
        · rcases hst with ⟨h5, _⟩ | ⟨_, h6, h7⟩
          · rw [h2] at h5; cases h5
          · subst h3; subst h6
            refine .inr ⟨h1, rfl, fun r' hr' v hv => ?_⟩
            rw [take_succ hi] at hr'
            rcases List.mem_append.mp hr' with q | q
            · exact h7 r' q v hv
            · simp at q; subst q
              have hv2 : v ∈ (joined kw2 2 r'.2).take (joined kw2 2 r'.2).length := by rw [List.take_length]; exact hv
              exact h4 v hv2
    · rintro _ ⟨kw1, flag, a5, a6, a7, I2, hst, rfl⟩
      rw [List.take_length] at hst
      have ht2 := total_le I2.ok
      have hkl2 := I2.len
      rcases hst with ⟨h1, h2⟩ | ⟨h1, h2, h3⟩
      · exact ss_nil ⟨600 - total kw1, by omega, kw1, flag, _, _, _, I2, .inl ⟨h1, by omega⟩, by omega, rfl⟩
      · subst h2
        exact ss_nil ⟨0, by omega, kw1, flag, _, _, _, I2, .inr ⟨h1, h3⟩, by omega, rfl⟩
  · subst hf
    have C : ClosedW g kw := by
      rcases hfl with ⟨h, _⟩ | ⟨_, h⟩
      · cases h
      · exact h
    have hm0 := gi_mem (l := g) (i := 0) (by decide) (by omega)
    obtain ⟨ws, hws⟩ := dhas_some.mp ((I1.keys (gi g 0).1).mpr (List.mem_map.mpr ⟨_, hm0, rfl⟩))
    have hwk := I1.ok.ok _ (dget_mem hws)
    have hwl : ws.length ≤ 13 := okW_len hwk.nd hwk.ok
    refine ss_retE (pr_sortedS (pr_l (pr_callT (par_cons (pr_famget 2 (pr_ix (pr_ix (pr_l (pr_var 0)) pr_int (ix_L (atI_gi (by decide) (by omega)))) pr_int ix_P0) hws (hu1 hr)) par_nil) M.list (cb_listD rfl))) (by rw [List.length_map, List.length_map]; omega) M.sorted) fun ys hy G v h => ⟨ys, ?_, h⟩
    obtain ⟨hp, hs⟩ := hy
    rw [map_fst_mk] at hp
    refine ⟨hp.nodup_iff.mpr hwk.nd, hs, fun v hv => hwk.ok v (hp.mem_iff.mp hv), fun v => ?_⟩
    rw [hp.mem_iff]
    constructor
    · intro hv
      exact ⟨(hwk.ok v hv).1, I1.sound _ ws hws v hv⟩
    · rintro ⟨h1, t, h2, h3⟩
      obtain ⟨u, hu, e⟩ := words_full W I1 C t _ h2 (by rw [h3, Array.length_toList]; exact h1)
      rw [h3] at e
      have hu : u ∈ ws := by
        unfold someOf at hu
        rw [hws] at hu
        exact hu
      rw [← str_ext e]; exact hu
end
end Rw

/-! RwHk: a def called within an except suite that is handed the exception; _law_kind -/
namespace Rw
open PySem PySem.Spec PyProof.Rows L2
abbrev Pin := Addr × Obj
/-- as FnH, its promise may speak of the exception that is handled -/
structure FnE (P : Program) (w : World) (K : PySem.W.Frag) (mg : Str → Option Value) (base : Heap) (CX : CXT) (k : Nat) (f : Addr) (fd : FuncData) (ps : List Str) (sp : Pin → Sp) : Prop where
  len : ∀ p vs H Q E, sp p vs H Q E → vs.length = ps.length
  run : ∀ (A : Around) (outer : List Env) (s : Shared) (H : Hp) (args : Args) (us : List Value) (vs : List V) (Q : VK) (E : XK) (p : Pin), L2H.RoomH k A → L2H.Hot1 A p → L2H.PinOk outer H s p → Env0 P w K mg base A outer s H → BindsTo s fd args (ps.zip us) → Vals vs us → sp p vs H Q E →
    codeAny (model P w) A (.call (.ref f) args) (CR CX outer P w H s Q E) s
theorem fn_ofE {CX : CXT} {P : Program} {w : World} {K : PySem.W.Frag} {mg : Str → Option Value} {base : Heap} {k : Nat} {f : Addr} {name qual : Str} {params : Arguments} {body : List Stmt} {scope : Scope} {dV kV doc pm cdv ct oc : Value} {an od : Option Addr}
    {osl : Array (Option Value)} {N ps : List Str} {sp : Pin → Sp} (lk : K.lookup f = some ⟨oc, od, .func (PySem.W.fnOf name qual params body scope dV kV doc pm an cdv ct), osl⟩) (hcd : PySem.W.codeIn K cdv qual = true) (S : FnScope N ps scope)
    (len : ∀ p vs H Q E, sp p vs H Q E → vs.length = ps.length)
    (hbody : ∀ (A : Around) (outer : List Env) (s : Shared) (H : Hp) (vs : List V) (Q : VK) (E : XK) (p : Pin), L2H.Hot1 A p → L2H.RoomH k (A.deeper (envOfC qual scope s.heap.objs.size f cdv)) → sp p vs H Q E →
      ∃ t, PSs (L2H.cxH CX P w K mg base N qual scope f cdv A outer s H E p) body t ∧ t { nx := fun _ H' => Q .non H', rt := Q } (L2.start N vs) H) :
    FnE P w K mg base CX (k + 1) f (PySem.W.fnOf name qual params body scope dV kV doc pm an cdv ct) ps sp := by
  refine ⟨len, fun A outer s H args us vs Q E p hr hot hpin e0 hb r hsp => ?_⟩
  have hl := len _ _ _ _ _ hsp
  have KX : K.In s.heap := e0.mod.kin.keeps fun b o e => (e0.bs b o e).1
  have lim : s.heap.NoLimit := e0.mod.nolimit.keeps fun b o e => (e0.bs b o e).1
  have hkind : ∀ y ∈ ps.zip us, scope.names.lookup y.1 = some .local ∨ (scope.names.lookup y.1 = some .cell ∧ ((cellsFrom (s.heap.objs.size + 1) scope.names []).lookup y.1).isSome = true) := fun ⟨n, v⟩ hy => by
    rcases S.par n (List.of_mem_zip hy).1 with q | q
    · exact .inl q
    · exact .inr ⟨q, PySem.W.cellsFrom_some _ _ _ (.inl q)⟩
  refine codeAny_call_function hr.depth (KX _ _ lk) rfl S.co S.gen rfl (PySem.W.codeRec_of KX hcd) (hb _ _ _ _ ?_)
  refine wpAny_newFunctionEnv_cells S.kind hkind fun env he s1 x => ?_
  subst he
  refine ⟨lim.keeps x.toInCall.keep, codeAny_func ?_⟩
  obtain ⟨t, ht, hq⟩ := hbody A outer s H vs Q E p hot (hr.deeper _) hsp
  have I : Inv (L2H.cxH CX P w K mg base N qual scope f cdv A outer s H E p) [] (L2.start N vs) H s1 := L2H.inv_startH S hpin e0 hl r x
  refine wpAny_mono (ht.run [] s1 (L2.start N vs) H _ I hq) (fun fl s' hs => ?_) fun e s' hs => hs
  have fin : ∀ {σ' : L2.St} {H' : Hp} {v : V} {u : Value}, Inv (L2H.cxH CX P w K mg base N qual scope f cdv A outer s H E p) [] σ' H' s' → RelV v u → Q v H' → CE outer P w H s Q u s' :=
    fun {σ' H' v u} J rv q => ⟨v, H', J.os, J.bare, J.base, J.hok, rv, q⟩
  cases fl with
  | ret u =>
    obtain ⟨v, σ', H', J, rv, q⟩ := hs
    exact fin J rv q
  | next =>
    obtain ⟨σ', H', J, q⟩ := hs
    exact fin (v := V.non) (u := Value.none) J rfl q
  | brk =>
    obtain ⟨_, _, _, q⟩ := hs
    exact False.elim q
  | cont =>
    obtain ⟨_, _, _, q⟩ := hs
    exact False.elim q
section
variable {X : Cx} {CX : CXT} {k : Nat} {f : Addr} {fd : FuncData} {ps : List Str} {sp : Pin → Sp} {E : L2.St → XK} {x : Str} {q pos : Pos} {e : Expr} {es : List Expr} {t : TA}
theorem run_fnE {pins : List (Addr × Obj)} {σ : L2.St} {H : Hp} {s : Shared} {Q : VK} {us : List Value} {vs : List V} {p : Pin} (F : FnE X.prog X.w X.K X.mg X.base CX k f fd ps sp) (hr : L2H.RoomH k X.A) (hot : L2H.Hot1 X.A p) (hp : p ∈ X.pn) (hb : Binds X.K fd ps []) (hx : PassesAt CX X σ (E σ))
    (I : Inv X pins σ H s) (r : Vals vs us) (h : sp p vs H Q (E σ)) : wpAny (model X.prog X.w) X.A (call (.ref f) us) (EP X pins σ Q) X.xe s := by
  have hl : us.length = ps.length := by rw [← r.length]; exact F.len _ _ _ _ _ h
  have b := hb s us I.kIn (by rw [List.append_nil]; exact hl)
  rw [List.append_nil] at b
  have P1 := I.pin p (List.mem_append_left _ hp)
  have hpin : L2H.PinOk X.stack H s p := ⟨P1.1, P1.2.1, fun hm => (List.mem_cons.mp (I.stkSub p.1 hm)).elim P1.2.2.1 P1.2.2.2.1, P1.2.2.2.2⟩
  refine wpAny_call (codeAny_mono (F.run X.A X.stack s H ⟨us, []⟩ us vs Q (E σ) p hr hot hpin I.env0 b r h) fun r s' hq => ?_)
  cases r with
  | error e => exact hx pins H s e s' I hq
  | ok fl =>
    cases fl with
    | ret u => exact I.after hq
    | next => exact False.elim hq
    | brk => exact False.elim hq
    | cont => exact False.elim hq
theorem pe_callE {p : Pin} (F : FnE X.prog X.w X.K X.mg X.base CX k f fd ps sp) (hr : L2H.RoomH k X.A) (hot : L2H.Hot1 X.A p) (hp : p ∈ X.pn) (hg : Gl X x) (hm : X.mg x = some (.ref f)) (hk : PySem.W.keepIn X.K (.ref f) = true) (hb : Binds X.K fd ps []) (hx : ∀ σ, PassesAt CX X σ (E σ))
    (ha : PA X (e :: es) t) (hdb : (x == ("__debug__" : Str)) = false := by decide) (he : starEach (e :: es) X.env = (false, eval e X.env) :: starEach es X.env := by rfl) (hpl : (backTo pos (starEach es X.env)).any (·.1) = false := by rfl) :
    PE X (.Call (.Name x q) (e :: es) [] pos) (tCallS (sp p) E t) := by
  refine ⟨fun pins s σ H Q I h => ?_⟩
  refine wpAny_Call_Name_kw (ld_glob I hg hm ?_ hdb)
  refine PySem.W.callWith_K (h₀ := X.base) I.ok.mod.kin hk (thn (ha.run pos pins s σ H _ I h) fun us s1 ⟨vs, H1, I1, r, q⟩ => ⟨I1.kIn, ?_⟩) he hpl
  exact run_fnE F hr hot hp hb (hx σ) I1 r q
/-- isinstance(e, c), e the exception at hand -/
theorem call_isP {a D : Addr} {oe : Obj} (C : ExcC X.K D) (hz : Zc (.ref D) none oe) (hf : ∃ vs, oe.data = .fields vs) (hp : (a, oe) ∈ X.pn) : CallR X (.builtin "isinstance") (rIsE X.K D a) := by
  intro pins s σ H xs us Q I r h
  obtain ⟨c, cv, b, rfl, hcv, e, q⟩ := h
  cases r with
  | cons rx rr =>
    cases rr with
    | cons rt rr =>
      cases rr
      cases rx
      have ec := hcv _ rt
      subst ec
      obtain ⟨hget, _⟩ := I.pin (a, oe) (List.mem_append.mpr (.inl hp))
      obtain ⟨vs, hv⟩ := hf
      have J : PySem.W.InstAt s.heap a oe D none := by
        obtain ⟨oc, od, oda, osl⟩ := oe
        obtain ⟨h1, h2⟩ := hz
        dsimp only at h1 h2 hv
        subst h1 h2 hv
        exact ⟨hget, rfl, rfl, trivial⟩
      exact PySem.W.kia_one (PySem.W.handS_kitx_exc C.hg C.hk C.hs C.hd C.ha C.hn C.ht C.hm) I.kIn J e (fun z => nomatch z) fun tk => ⟨.bl b, H, I.kept (t' := tk) fun _ _ z => z, rfl, q⟩
theorem count_vals {y : V} : ∀ {ys : List V} {us : List Value}, Vals ys us → ys.all flatV = true → us.countP (eqU y) = ys.countP fun z => eqV z y
  | [], _, h, _ => by cases h; rfl
  | z :: ys, _, h, f => by
    cases h with
    | cons h1 h2 =>
      rw [List.all_cons, Bool.and_eq_true] at f
      rw [List.countP_cons, List.countP_cons, count_vals h2 f.2, eqU_of h1 f.1]
/-- xs.count(y), items that hold nothing -/
def rCntF (K : PySem.W.Frag) : V → List V → Hp → VK → Prop := fun x xs H Q => ∃ (a : Addr) (ys : List V) (y : V), x = V.ref a ∧ xs = [y] ∧ SqL K H a ys ∧ flatV y = true ∧ ys.all flatV = true ∧ Q (.int ((ys.countP fun z => eqV z y : Nat) : Int)) H
theorem mt_countF : MtR X "list.count" (rCntF X.K) := by
  intro pins s σ H x xs v us Q I rx rxs h
  obtain ⟨a, ys, y, rfl, rfl, hs, fy, fys, q⟩ := h
  cases rx
  cases rxs with
  | cons ry rt =>
    rename_i uy ut
    cases rt
    obtain ⟨its, rv, ⟨⟨cls, dd, data, sl⟩, n, ho, hc, hdn, hd⟩, hlen⟩ := I.list hs
    simp only at hc hd
    subst hc hd
    refine call_meets PySem.F.slot_list_count ⟨_, ho, rfl⟩ PySem.F.entry_list_count (PySem.F.args_list_count_2 _ _)
      (SeqAt.list_countAt a its.toArray n dd sl uy (eqU y)) ⟨ho, fun u' hu' => mem_eqAt ry fy rv fys u' (by simpa using hu'), ?_⟩
    have ec : its.toArray.toList.countP (eqU y) = ys.countP fun z => eqV z y := by
      rw [List.toList_toArray]; exact count_vals rv fys
    refine ⟨.int ((ys.countP fun z => eqV z y : Nat) : Int), H, I.tok _, ⟨s.toks, ?_⟩, q⟩
    show Value.int ((its.toArray.toList.countP (eqU y) : Nat) : Int) s.toks = Value.int ((ys.countP fun z => eqV z y : Nat) : Int) s.toks
    rw [ec]
end
end Rw

/-! RwHt: _law_kind, _law_told -/
namespace Rw
open PySem PySem.Spec PyProof.Rows L2
def kdName : Kd → Str
  | .noTurn => "NoTurn"
  | .tooMany => "TooMany"
  | .noTree => "NoTree"
structure ExB (K : PySem.W.Frag) (mg : Str → Option Value) (cls : Kd → Addr) : Prop where
  ec : ∀ k, ExcC K (cls k)
  k0 : ∃ c, mg "NoGrammar" = some (.ref c) ∧ ∀ k, PySem.W.kitOne K (.ref (cls k)) (.ref c) = some false
  k4 : ∃ c, mg "NoSteps" = some (.ref c) ∧ ∀ k, PySem.W.kitOne K (.ref (cls k)) (.ref c) = some false
  k5 : ∃ c, mg "NoNote" = some (.ref c) ∧ ∀ k, PySem.W.kitOne K (.ref (cls k)) (.ref c) = some false
  kk : ∀ k j, PySem.W.kitOne K (.ref (cls k)) (.ref (cls j)) = some (decide (k = j))
  kv : ∀ k, PySem.W.kitOne K (.ref (cls k)) (.type "ValueError") = some true
  me : ∃ c, mg "MakerError" = some (.ref c) ∧ ∀ k, PySem.W.exmOne K (.ref (cls k)) (.ref c) = some true
section
variable {X : Cx} {B : Bs} {es : List Sl} {e a b : Expr} {pos p np apos : Pos} {x : Str}
theorem pr_globC {c : Addr} (hm : X.mg x = some (.ref c)) (hg : Gl X x := by rfl) (hd : (x == ("__debug__" : Str)) = false := by decide) : PR X B es (.Name x pos) ((Rp.ref c).at ()) :=
  pr_of (pe_glob hg hm (v := .ref c) rfl hd) fun σ G H Q E q => q _ G H (Stp.refl E.same) rfl
theorem cb_isP {a D c : Addr} {oe : Obj} {k : Bool} (C : ExcC X.K D) (hz : Zc (.ref D) none oe) (hf : ∃ vs, oe.data = .fields vs) (hp : (a, oe) ∈ X.pn) (hk : PySem.W.kitOne X.K (.ref D) (.ref c) = some k) : Cb X (.builtin "isinstance") [(Rp.ref a).at (), (Rp.ref c).at ()] (Rp.bl.at k) := ⟨_, call_isP C hz hf hp, fun G H vs Q s h q => by
  obtain ⟨v, w, rfl, r1, r2⟩ := al2 h
  have r1 : v = .ref a := r1
  have r2 : w = .ref c := r2
  subst r1; subst r2
  exact ⟨.ref c, .ref c, k, rfl, fun u hu => hu, hk, q _ G H (Stp.refl s) rfl⟩⟩
theorem cb_isPV {a D : Addr} {oe : Obj} {n : String} {k : Bool} (C : ExcC X.K D) (hz : Zc (.ref D) none oe) (hf : ∃ vs, oe.data = .fields vs) (hp : (a, oe) ∈ X.pn) (hk : PySem.W.kitOne X.K (.ref D) (.type n) = some k) : Cb X (.builtin "isinstance") [(Rp.ref a).at (), rTy n] (Rp.bl.at k) := ⟨_, call_isP C hz hf hp, fun G H vs Q s h q => by
  obtain ⟨v, w, rfl, r1, r2⟩ := al2 h
  have r1 : v = .ref a := r1
  have r2 : w = .ty n := r2
  subst r1; subst r2
  exact ⟨.ty n, .type n, k, rfl, fun u hu => hu, hk, q _ G H (Stp.refl s) rfl⟩⟩
theorem flat_bls (xs : List Bool) : (xs.map V.bl).all flatV = true := by
  induction xs with
  | nil => rfl
  | cons x r ih => rw [List.map_cons, List.all_cons, ih]; rfl
theorem count_bls (xs : List Bool) (y : Bool) : (xs.map V.bl).countP (fun z => eqV z (.bl y)) = xs.count y := by
  induction xs with
  | nil => rfl
  | cons x r ih =>
    rw [List.map_cons, List.countP_cons, ih, List.count_cons]
    cases x <;> cases y <;> rfl
/-- xs.count(y), truth values -/
theorem pr_countB {xs : List Bool} {y : Bool} (ha : PR X B es a (rL Rp.bl xs)) (hb : PR X B es b (Rp.bl.at y))
    (hbase : attributeBase a "count" X.env (eval a X.env) = eval a X.env := by rfl)
    (hfew : ((backTo pos (starEach (b :: []) X.env)).all (fun x => !x.1) && (backToKw pos (keywordEach [] X.env)).all (fun x => x.1.isSome) && decide ((b :: []).length + ([] : List Keyword).length + (if ([] : List Keyword).isEmpty then 0 else 1) < 30)) = true := by rfl)
    (hline : (apos.endLine == pos.line) = true := by rfl) (hs : starEach (b :: []) X.env = (false, eval b X.env) :: starEach [] X.env := by rfl) (hplain : (backTo pos (starEach [] X.env)).any (·.1) = false := by rfl) :
    PR X B es (.Call (.Attribute a "count" apos) [b] [] pos) (Rp.int.at ((xs.count y : Nat) : Int)) :=
  pr_of (pe_bm PySem.F.plainAttrs_list PySem.F.slot_list_count PySem.F.type_list_count mt_countF ha (par_cons hb par_nil hs) hbase hfew hline hs hplain) fun σ G H Q E q => ⟨G, E, fun v G1 H1 s1 r1 => by
    obtain ⟨p, vs, e, h1, r, z⟩ := id r1
    subst e
    refine ⟨.inl ⟨rfl, _, SqL.of h1⟩, G1, E.step s1, fun us G2 H2 s2 r2 => ?_⟩
    obtain ⟨u, rfl, e2⟩ := al1 r2
    have e2 : u = .bl y := e2
    subst e2
    have ev := bls_of r
    subst ev
    refine ⟨p, _, _, rfl, rfl, SqL.of (s2.hh _ _ h1), rfl, flat_bls xs, ?_⟩
    rw [count_bls]
    exact q _ _ _ (s1.trans s2) rfl⟩
/-- xs.index(y), truth values -/
theorem pr_indexB {xs : List Bool} {y : Bool} {j : Nat} (ha : PR X B es a (rL Rp.bl xs)) (hb : PR X B es b (Rp.bl.at y)) (hj : xs[j]? = some y) (hno : ∀ m, m < j → xs[m]? = some (!y))
    (hbase : attributeBase a "index" X.env (eval a X.env) = eval a X.env := by rfl)
    (hfew : ((backTo pos (starEach (b :: []) X.env)).all (fun x => !x.1) && (backToKw pos (keywordEach [] X.env)).all (fun x => x.1.isSome) && decide ((b :: []).length + ([] : List Keyword).length + (if ([] : List Keyword).isEmpty then 0 else 1) < 30)) = true := by rfl)
    (hline : (apos.endLine == pos.line) = true := by rfl) (hs : starEach (b :: []) X.env = (false, eval b X.env) :: starEach [] X.env := by rfl) (hplain : (backTo pos (starEach [] X.env)).any (·.1) = false := by rfl) :
    PR X B es (.Call (.Attribute a "index" apos) [b] [] pos) (Rp.int.at (j : Int)) :=
  pr_of (pe_bm PySem.F.plainAttrs_list PySem.F.slot_list_index PySem.F.type_list_index mt_index ha (par_cons hb par_nil hs) hbase hfew hline hs hplain) fun σ G H Q E q => ⟨G, E, fun v G1 H1 s1 r1 => by
    obtain ⟨p, vs, e, h1, r, z⟩ := id r1
    subst e
    refine ⟨.inl ⟨rfl, _, SqL.of h1⟩, G1, E.step s1, fun us G2 H2 s2 r2 => ?_⟩
    obtain ⟨u, rfl, e2⟩ := al1 r2
    have e2 : u = .bl y := e2
    subst e2
    have ev := bls_of r
    subst ev
    refine ⟨p, _, _, j, .bl y, rfl, rfl, SqL.of (s2.hh _ _ h1), rfl, flat_bls xs, by rw [List.getElem?_map, hj]; rfl, by cases y <;> rfl, fun m z' hm hz => ?_, q _ _ _ (s1.trans s2) rfl⟩
    rw [List.getElem?_map, hno m hm] at hz
    have hz : V.bl (!y) = z' := Option.some.inj hz
    rw [← hz]
    cases y <;> rfl⟩
end
def spK (K : PySem.W.Frag) (cls : Kd → Addr) (p : Pin) : Sp := fun vs H Q _ => ∃ G k, Same G H ∧ vs = [.ref p.1] ∧ Zc (.ref (cls k)) none p.2 ∧ (∃ fs, p.2.data = .fields fs) ∧ ∀ v G' H', Stp G H G' H' → Rp.str.rel K G' v (kdName k) → Q v H'
section
variable (P : Program) (w : World) (K : PySem.W.Frag) (mg : Str → Option Value) (base : Heap) (cls : Kd → Addr)
def D_kind : Prop := ∃ f fd, FnE P w K mg base CX0 1 f fd ["e"] (spK K cls) ∧ mg "_law_kind" = some (.ref f) ∧ PySem.W.keepIn K (.ref f) = true ∧ Binds K fd ["e"] []
end
section
variable {P : Program} {w : World} {K : PySem.W.Frag} {mg : Str → Option Value} {base : Heap} {cls : Kd → Addr}
theorem ok__law_kind (T : Top K mg "_law_kind" st__law_kind ["e"]) (M : Blt mg) (X0 : ExA K mg cls) (X1 : ExB K mg cls) : D_kind P w K mg base cls := by
  obtain ⟨f, fd, F, hm, hb⟩ := T.ex
  refine ⟨f, fd, ?_, hm, F.kp, hb⟩
  obtain ⟨oc, od, kV, doc, pm, an, cdv, ct, osl, rfl, lk, hcd⟩ := F.ex
  refine fn_ofE lk hcd sc__law_kind (fun p vs H Q E ⟨G, k, _, e, _⟩ => by rw [e]; rfl) fun Aa outer sh H vs Q E pn hot hr ⟨G, k, sm, ev, hz, hf, q⟩ => ?_
  subst ev
  obtain ⟨a, oe⟩ := pn
  obtain ⟨c0, g0, k0⟩ := X1.k0
  obtain ⟨c4, g4, k4⟩ := X1.k4
  obtain ⟨c5, g5, k5⟩ := X1.k5
  have C := X1.ec k
  have body : PSl (L2H.cxH CX0 P w K mg base nm__law_kind "_law_kind" (defScope st__law_kind) f cdv Aa outer sh H E (a, oe)) ⟨G, H⟩ [.dat (Rp.ref a) (), .un] (defBody st__law_kind) ⟨fun _ => False, fun G v => Rp.str.rel K G v (kdName k), fun _ _ _ => False⟩ := by
    have hp : (a, oe) ∈ (L2H.cxH CX0 P w K mg base nm__law_kind "_law_kind" (defScope st__law_kind) f cdv Aa outer sh H E (a, oe)).pn := List.mem_singleton.mpr rfl
    refine ss_set 1 (pr_lst Rp.bl [false, decide (k = .noTurn), decide (k = .tooMany), decide (k = .noTree)] (par_cons (pr_callB (par_cons (pr_var 0) (par_cons (pr_globC g0) par_nil)) M.isinstance (cb_isP C hz hf hp (k0 k)))
      (par_cons (pr_callB (par_cons (pr_var 0) (par_cons (pr_globC X0.noTurn.g) par_nil)) M.isinstance (cb_isP C hz hf hp (X1.kk k .noTurn))) (par_cons (pr_callB (par_cons (pr_var 0) (par_cons (pr_globC X0.tooMany.g) par_nil)) M.isinstance (cb_isP C hz hf hp (X1.kk k .tooMany)))
        (par_cons (pr_callB (par_cons (pr_var 0) (par_cons (pr_globC X0.noTree.g) par_nil)) M.isinstance (cb_isP C hz hf hp (X1.kk k .noTree))) par_nil)))) (small (by simp))) ?_ sc__law_kind.nd
    refine ss_set 1 (pr_bin (pr_l (pr_var 1)) (pr_l (pr_lst Rp.bl [false, false] (par_cons (pr_callB (par_cons (pr_var 0) (par_cons (pr_globC g4) par_nil)) M.isinstance (cb_isP C hz hf hp (k4 k))) (par_cons (pr_callB (par_cons (pr_var 0) (par_cons (pr_globC g5) par_nil)) M.isinstance (cb_isP C hz hf hp (k5 k))) par_nil)))) (bin_cat ?_)) ?_ sc__law_kind.nd
    · exact small (by simp)
    show PSl _ _ [.dat (Rp.ref a) (), .dat Rp.bl.lst [false, decide (k = .noTurn), decide (k = .tooMany), decide (k = .noTree), false, false]] _ _
    have hcount : [false, decide (k = .noTurn), decide (k = .tooMany), decide (k = .noTree), false, false].count true = 1 := by cases k <;> decide
    refine ss_ifF (pb_w (pbw_or (k := false) (pb_eq (pb_cmp (pr_countB (pr_l (pr_var 1)) pr_bl) pr_int cmp_neI) (by rw [hcount]; decide)) fun _ => pbw_or1 (pb_not (k := true) (pb_val (pr_callB (par_cons (pr_var 0) (par_cons (pr_ty M.ValueError) par_nil)) M.isinstance (cb_isPV C hz hf hp (X1.kv k))))))) rfl (ss_nil ?_)
    have key : ∃ j : Nat, [false, decide (k = .noTurn), decide (k = .tooMany), decide (k = .noTree), false, false][j]? = some true ∧ (∀ m, m < j → [false, decide (k = .noTurn), decide (k = .tooMany), decide (k = .noTree), false, false][m]? = some (!true)) ∧ (["NoGrammar", "NoTurn", "TooMany", "NoTree", "NoSteps", "NoNote"] : List Str)[j]? = some (kdName k) := by
      cases k
      · exact ⟨1, by decide, by decide, rfl⟩
      · exact ⟨2, by decide, by decide, rfl⟩
      · exact ⟨3, by decide, by decide, rfl⟩
    obtain ⟨j, j1, j2, j3⟩ := key
    exact ss_ret (pr_ix (pr_l (pr_lst Rp.str ["NoGrammar", "NoTurn", "TooMany", "NoTree", "NoSteps", "NoNote"] (par_cons pr_str (par_cons pr_str (par_cons pr_str (par_cons pr_str (par_cons pr_str (par_cons pr_str par_nil)))))))) (pr_indexB (pr_l (pr_var 1)) pr_bl j1 j2) (ix_L (atI_nat j3))) fun _ _ h => h
  refine ⟨_, body, G, ⟨Stp.refl sm, [], .dat (A := Rp.ref a) (a := ()) rfl (.un .nil), List.nodup_nil⟩, ⟨fun es σ G' H' hn E' => hn.elim, fun v G' H' s' hv => q v G' H' s' hv, fun _ _ _ _ z => z.elim⟩⟩
end
end Rw

/-! RwHu: _law_told -/
namespace Rw
open PySem PySem.Spec PyProof.Rows L2
def told {β : Type} (r : Except Kd β) : β ⊕ Str := match r with
  | .ok b => .inl b
  | .error k => .inr (kdName k)
theorem takes0N {X : Cx} : L2N.Takes X (fun _ _ _ _ => False) := fun _ _ x => by
  obtain ⟨_, _, _, _, _, _, _, _, _, _, _, _, _, _, _, _, z⟩ := x
  exact z.elim
/-- what a body that may raise wishes -/
def tW {β : Type} (K : PySem.W.Frag) (B : Bs) (es : List Sl) (cls : Kd → Addr) (A : Rp β) (r : Except Kd β) (W : WX) : TE := fun σ H Q => ∃ G, EnvA K B es σ G H ∧ (∀ b, r = .ok b → ∀ v G' H', Stp G H G' H' → A.rel K G' v b → Q v H') ∧ ∀ k, r = .error k → ∀ H', Same H H' → W (.ref (cls k)) none σ H'
section
variable {X : Cx} {B : Bs} {es : List Sl} {e : Expr} {as : List Expr} {x : Str} {p pos : Pos} {ps : List Str} {k : Nat} {ι β : Type} {Ar : ι → List Sl} {pre : ι → Prop} {A : Rp β} {cls : Kd → Addr} {W : WX} {g : ι → Except Kd β} {r : Except Kd β}
theorem pe_callW (D : Df X.prog X.w X.K X.mg X.base (L2N.CX X.prog X.w) x ps k (spE X.K cls Ar pre A g)) (hr : Room k X.A) (tk : L2N.Takes X W) (i : ι) (ha : PAr X B es (e :: as) ((Ar i).map slR)) (hp : pre i) (hd : g i = r := by rfl) (hg : Gl X x := by rfl) (hdb : (x == ("__debug__" : Str)) = false := by decide) (he : starEach (e :: as) X.env = (false, eval e X.env) :: starEach as X.env := by rfl) (hpl : (backTo pos (starEach as X.env)).any (·.1) = false := by rfl) :
    PE X (.Call (.Name x p) (e :: as) [] pos) (tW X.K B es cls A r W) := by
  subst hd
  obtain ⟨f, fd, F, m, kp, b⟩ := D.ex
  exact pe_imp (pe_callS F hr hg m kp b (fun σ => L2N.passAt tk σ) ha hdb he hpl) fun σ H Q ⟨G, E, q, qe⟩ => ⟨G, E, fun vs G1 H1 s1 r1 =>
    ⟨G1, i, s1.gh, als_sl r1, hp, fun b hb v G2 H2 s2 r2 => q b hb v G2 H2 (s1.trans s2) r2, fun e he H' s => qe e he H' (s1.hh.trans s)⟩⟩
end
theorem EnvA.up {K : PySem.W.Frag} {B : Bs} {es : List Sl} {σ : L2.St} {G H H' : Hp} (E : EnvA K B es σ G H) (s : Same H H') : EnvA K B es σ G H' := E.step ⟨Same.refl _, E.same.trans s, s, fun a o e => .inl e⟩
section
variable {P : Program} {w : World} {K : PySem.W.Frag} {mg : Str → Option Value} {base : Heap} {cls : Kd → Addr}
/-- try: body, except MakerError as e: return _law_kind(e) -/
theorem told_try {X : Cx} {B : Bs} {β : Type} {A : Rp β} {r : Except Kd β} {es : List Sl} {body : List Stmt} {np pos pos' p1 p2 p3 p4 : Pos} {O : Out} (X1 : ExB X.K X.mg cls) (DK : D_kind X.prog X.w X.K X.mg X.base cls) (hr : Room 1 X.A) (hN : X.N.Nodup) (hi : X.N[3]? = some ("e" : Str)) (hs : X.stack = X.env :: X.outer) (hf : X.env.frame = some X.env.locals) (hln : X.env.kindOf "e" = some .local) (hgl : Gl X "MakerError") (hgk : Gl X "_law_kind")
    (hlen : 3 < es.length)
    (hv : Vis X.env.scope "e")
    (hst : starEach [Expr.Name "e" p3] X.env = (false, eval (Expr.Name "e" p3) X.env) :: starEach [] X.env) (hpl : (backTo p2 (starEach [] X.env)).any (·.1) = false)
    (hb : ∀ (W : WX) (pn : List (Addr × Obj)) (xe : Value → Shared → Prop), L2N.Takes (X.tr pn xe) W → PSs (X.tr pn xe) body (fun D σ H => tW X.K B es cls A r W σ H D.rt))
    (hO : ∀ G v, (Rp.sum A Rp.str).rel X.K G v (told r) → O.rt G v) :
    PSl X B es [.Try body [.ExceptHandler (some (.Name "MakerError" np)) (some "e") [.Return (some (.Call (.Name "_law_kind" p1) [.Name "e" p3] [] p2)) p4] pos'] [] [] pos] O := by
  obtain ⟨cm, gm, hm⟩ := X1.me
  obtain ⟨f, fd, F, mF, kF, bF⟩ := DK
  have hsu : ∀ (a : Addr) (oe : Obj) (c : Value) (d : Option Addr) (pn : List (Addr × Obj)), L2N.Zn c d oe → (∃ vs, oe.data = .fields vs) →
      PSs (X.suite a ((a, oe) :: pn)) [.Return (some (.Call (.Name "_law_kind" p1) [.Name "e" p3] [] p2)) p4] (fun D σ H => ∃ k G, c = .ref (cls k) ∧ d = none ∧ EnvA X.K B (es.set 3 (.dat (Rp.ref a) ())) σ G H ∧ ∀ v G' H', Stp G H G' H' → Rp.str.rel X.K G' v (kdName k) → D.rt v H') := by
    intro a oe c d pn hz hfd
    have hot : L2H.Hot1 (X.suite a ((a, oe) :: pn)).A (a, oe) := by
      obtain ⟨vs, hvs⟩ := hfd
      exact ⟨rfl, vs, hvs, hz.2.2 vs hvs⟩
    have hva : PR (X.suite a ((a, oe) :: pn)) B (es.set 3 (.dat (Rp.ref a) ())) (.Name "e" p3) ((Rp.ref a).at ()) := pr_var 3 hi (by rw [List.getElem?_set]; simp [hlen]) hv
    refine pss_imp (pss_one (ps_ret (pe_callE (p := (a, oe)) F ⟨hr.dp, hr.un⟩ hot List.mem_cons_self hgk mF kF bF (E := fun _ _ _ _ => False) (fun σ _ _ _ _ _ _ z => z.elim) (par_cons hva par_nil hst) (by decide) hst hpl))) fun D σ H ⟨k, G, e1, e2, E, q⟩ => ?_
    subst e1; subst e2
    refine ⟨G, E, fun vs G1 H1 s1 r1 => ?_⟩
    obtain ⟨v, rfl, ev⟩ := al1 r1
    have ev : v = .ref a := ev
    subst ev
    exact ⟨G1, k, s1.gh, rfl, hz.zc, hfd, fun v G2 H2 s2 rv => q v G2 H2 (s1.trans s2) rv⟩
  refine pss_imp (pss_one (L2N.ps_try_as (Wout := fun _ _ _ _ => False) (tb := fun W D σ H => tW X.K B es cls A r W σ H D.rt) hs hf hN hi hln ⟨hgl, by decide, .inl gm⟩ takes0N (fun W pn xe tk _ => hb W pn xe tk) hsu)) fun D σ H ⟨G, E, q⟩ => ?_
  refine ⟨G, E, fun b hb v G' H' s rv => q.rt v G' H' (E.st.trans s) (hO G' v (by rw [hb]; exact rv)), fun k hk H' s => ?_⟩
  refine ⟨true, hm k, fun _ a ha => ⟨k, G, rfl, rfl, (E.up s).setD (A := Rp.ref a) (a := ()) rfl, fun v G2 H2 s2 rv => q.rt v G2 H2 ((E.up s).st.trans s2) (hO G2 v (by rw [hk]; exact rv))⟩, fun z => by cases z⟩
end
abbrev rPB : Rp (Gram × Books) := rGram.pair rBooks
section
variable (P : Program) (w : World) (K : PySem.W.Frag) (mg : Str → Option Value) (base : Heap) (cls : Kd → Addr)
abbrev D_told1 := Df P w K mg base CX0 "_law_told" ["call", "grammar", "tree"] 190 (spI K (ι := Gram) (fun g => [.dat Rp.int 1, .dat rGram g, .dat Rp.str ""]) WF (Rp.sum rPB Rp.str) (fun g => told (plain g)))
abbrev D_told0 := Df P w K mg base CX0 "_law_told" ["call", "grammar", "tree"] 190 (spI K (ι := Gram × Tr) (fun i => [.dat Rp.int 0, .dat rGram i.1, .dat Rp.tr i.2]) (fun i => GW i.1 ∧ depth i.2 ≤ 150) (Rp.sum Rp.tr Rp.str) (fun i => told (ledPlain i.1 i.2)))
end
section
variable {P : Program} {w : World} {K : PySem.W.Frag} {mg : Str → Option Value} {base : Heap} {cls : Kd → Addr}
theorem ok_told1 (T : Top K mg "_law_told" st__law_told ["call", "grammar", "tree"]) (X1 : ExB K mg cls) (DK : D_kind P w K mg base cls) (D1 : D_plain P w K mg base cls) : D_told1 P w K mg base := T.df fun f fd F => by
  refine fn_pure F sc__law_told (fun _ => rfl) no3 fun g W cdv Aa outer sh H E B hr => ?_
  have W : WF g := W
  show PSl _ _ [.dat Rp.int 1, .dat rGram g, .dat Rp.str "", .un] _ _
  refine told_try (A := rPB) (r := plain g) X1 DK (hr.mono (by decide)) sc__law_told.nd rfl rfl rfl rfl rfl rfl (by simp) (by first | exact Or.inl rfl | exact Or.inr (Or.inl rfl) | exact Or.inr (Or.inr rfl)) rfl rfl (fun W' pn xe tk => ?_) (fun G v h => h)
  refine pss_imp (pss_cons (ps_if (pb_cmp (es := [.dat Rp.int 1, .dat rGram g, .dat Rp.str "", .un]) (B := B) (k := false) (pr_var 0) pr_int cmp_eqI) pss_never pss_nil) (pss_one (ps_ret (pe_callW (es := [.dat Rp.int 1, .dat rGram g, .dat Rp.str "", .un]) (B := B) D1 (hr.mono (by decide)) tk g (par_cons (pr_var 1) par_nil) W)))) fun D σ H ⟨G, E, q, qe⟩ => ?_
  exact ⟨G, E, fun G' H' s => iteF ⟨G', E.step s, fun b hb v G2 H2 s2 rv => q b hb v G2 H2 (s.trans s2) rv, fun k hk H2 s2 => qe k hk H2 (s.hh.trans s2)⟩⟩
theorem ok_told0 (T : Top K mg "_law_told" st__law_told ["call", "grammar", "tree"]) (X1 : ExB K mg cls) (DK : D_kind P w K mg base cls) (D1 : D_led_plain P w K mg base cls) : D_told0 P w K mg base := T.df fun f fd F => by
  refine fn_pure F sc__law_told (fun _ => rfl) no3 fun ⟨g, t⟩ ⟨W, hd⟩ cdv Aa outer sh H E B hr => ?_
  show PSl _ _ [.dat Rp.int 0, .dat rGram g, .dat Rp.tr t, .un] _ _
  refine told_try (A := Rp.tr) (r := ledPlain g t) X1 DK (hr.mono (by decide)) sc__law_told.nd rfl rfl rfl rfl rfl rfl (by simp) (by first | exact Or.inl rfl | exact Or.inr (Or.inl rfl) | exact Or.inr (Or.inr rfl)) rfl rfl (fun W' pn xe tk => ?_) (fun G v h => h)
  refine pss_imp (pss_cons (ps_if (pb_cmp (es := [.dat Rp.int 0, .dat rGram g, .dat Rp.tr t, .un]) (B := B) (k := true) (pr_var 0) pr_int cmp_eqI) (pss_one (ps_ret (pe_callW (es := [.dat Rp.int 0, .dat rGram g, .dat Rp.tr t, .un]) (B := B) D1 (hr.mono (by decide)) tk (g, t) (par_cons (pr_var 1) (par_cons (pr_var 2) par_nil)) ⟨W, hd⟩))) pss_never) pss_never) fun D σ H ⟨G, E, q, qe⟩ => ?_
  exact ⟨G, E, fun G' H' s => iteT ⟨G', E.step s, fun b hb v G2 H2 s2 rv => q b hb v G2 H2 (s.trans s2) rv, fun k hk H2 s2 => qe k hk H2 (s.hh.trans s2)⟩⟩
end
end Rw

/-! RwHl: _law_led -/
namespace Rw
open PySem PyProof.Rows L2
instance : Inhabited Place := ⟨.inl 0⟩
def fullRule (fewer : Gram) (e : Entry) : Rule := ((gi fewer e.1).1, ((upTo (gi fewer e.1).2.length).filter fun k => isWhole (gi e.2 k)).map (gi (gi fewer e.1).2))
def straightRule (full : Gram) (c : List Int) : Rule := ((gi full (gi c 0)).1, (gi full (gi c.reverse 0)).2)
structure BookOk (g : Gram) (bs : Books) : Prop where
  i0 : ∀ i ∈ bs.b0, 0 ≤ i ∧ i < g.length
  l0 : bs.b0.length ≤ 40
  e1 : ∀ e ∈ bs.b1, 0 ≤ e.1 ∧ e.1 < bs.b0.length ∧ e.2.length = (gi (bs.b0.map (gi g)) e.1).2.length ∧ e.2.length ≤ 6 ∧ ∀ t, Sum.inr t ∈ e.2 → isLeaf t = false
  l1 : bs.b1.length ≤ 40
  c2 : ∀ c ∈ bs.b2, c ≠ [] ∧ 0 ≤ gi c 0 ∧ gi c 0 < bs.b1.length ∧ 0 ≤ gi c.reverse 0 ∧ gi c.reverse 0 < bs.b1.length
  l2 : bs.b2.length ≤ 40
  eq : bs.b2.map (straightRule (bs.b1.map (fullRule (bs.b0.map (gi g))))) = straightOf g
section
variable (P : Program) (w : World) (K : PySem.W.Frag) (mg : Str → Option Value) (base : Heap)
abbrev D_led := Df P w K mg base CX0 "_law_led" ["grammar", "books", "tree"] 180 (spI K (ι := Gram × Books × Tr) (fun i => [.dat rGram i.1, .dat rBooks i.2.1, .dat Rp.tr i.2.2]) (fun i => LedPre i.1 i.2.1 i.2.2 ∧ BookOk i.1 i.2.1) Rp.tr (fun i => leadAll (straightOf i.1) i.2.1 i.2.2))
end
section
variable {P : Program} {w : World} {K : PySem.W.Frag} {mg : Str → Option Value} {base : Heap}
theorem ok_led (T : Top K mg "_law_led" st__law_led ["grammar", "books", "tree"]) (M : Blt mg) (DW : D_whole_p P w K mg base) (D6 : D_leadP P w K mg base "_law_two_led" 40) (D7 : D_renum P w K mg base "_law_numbered" 40) (D8 : D_leadS P w K mg base "_law_lone_led" 40) (D9 : D_leadE P w K mg base "_law_empty_led" 160) (D10 : D_renum P w K mg base "_law_numbered" 170) : D_led P w K mg base := T.df fun f fd F => by
  refine fn_pure F sc__law_led (fun _ => rfl) no3 fun ⟨g, bs, t⟩ ⟨L, BO⟩ cdv Aa outer sh H E B hr => ?_
  obtain ⟨lsm, li3, ll3, lt0, lp0, lt1, lp1, lt2, lp2, lt3, lp3, lt4, lp4, lt5⟩ := L
  have BO : BookOk g bs := BO
  have ll3 : bs.b3.length ≤ 40 := ll3
  have l0 := BO.l0
  have l1 := BO.l1
  have l2 := BO.l2
  show PSl _ _ [.dat rGram g, .dat rBooks bs, .dat Rp.tr t, .un, .un, .un, .un, .un, .un, .un, .un, .un] _ _
  refine ss_setLcm 3 [("number", 5)] (gi g) (it_list (pr_ix (pr_var 1) pr_int ix_B0)) (fun _ _ _ _ _ => tg_name 5 sc__law_led.nd) (fun y hy _ _ _ _ _ => pr_ix (pr_l (pr_var 0)) (pr_var 5) (ix_L (atI_gi (BO.i0 y hy).1 (BO.i0 y hy).2))) (small (by omega)) sc__law_led.nd ?_
  refine ss_own0 4 rRule ?_ sc__law_led.nd
  have hfl : (bs.b0.map (gi g)).length = bs.b0.length := List.length_map _
  have e1 := BO.e1
  have ceq := BO.eq
  generalize bs.b0.map (gi g) = fewer at hfl e1 ceq
  show PSl _ _ [.dat rGram g, .dat rBooks bs, .dat Rp.tr t, .dat rGram fewer, .own (.lst rRule []), .un, .un, .un, .un, .un, .un, .un] _ _
  refine ss_for (fun i es => ∃ (a5 a6 a7 : Sl), es = [.dat rGram g, .dat rBooks bs, .dat Rp.tr t, .dat rGram fewer, .own (.lst rRule ((bs.b1.take i).map (fullRule fewer))), a5, a6, a7, .un, .un, .un, .un])
    (it_list (pr_ix (pr_var 1) pr_int ix_B1)) (tg_pair 5 6 rfl sc__law_led.nd) ⟨.un, .un, .un, rfl⟩ ?_ ?_ PassesOwn.never rfl
  · rintro B' i e _ hi ⟨a5, a6, a7, rfl⟩
    obtain ⟨h1, h2, h3, h6, h4⟩ := e1 e (List.mem_of_getElem? hi)
    have hil := (List.getElem?_eq_some_iff.mp hi).1
    show PSl _ _ [.dat rGram g, .dat rBooks bs, .dat Rp.tr t, .dat rGram fewer, .own (.lst rRule ((bs.b1.take i).map (fullRule fewer))), .dat Rp.int e.1, .dat rPlace.tup e.2, a7, .un, .un, .un, .un] _ _
    have hat := atI_gi (xs := fewer) h1 (by rw [hfl]; exact h2)
    refine ss_set 7 (pr_ix (pr_ix (pr_l (pr_var 3)) (pr_var 5) (ix_L hat)) pr_int ix_P1) ?_ sc__law_led.nd
    show PSl _ _ [.dat rGram g, .dat rBooks bs, .dat Rp.tr t, .dat rGram fewer, .own (.lst rRule ((bs.b1.take i).map (fullRule fewer))), .dat Rp.int e.1, .dat rPlace.tup e.2, .dat Rp.str.tup (gi fewer e.1).2, .un, .un, .un, .un] _ _
    refine ss_append 4 (d := fullRule fewer e) (pr_pair (pr_ix (pr_ix (pr_l (pr_var 3)) (pr_var 5) (ix_L hat)) pr_int ix_P0) (pr_callT (par_cons (pr_l (pr_lc [("k", 10)] (c := fun k => isWhole (gi e.2 k)) (f := gi (gi fewer e.1).2) (it_range (pr_callB (par_cons (pr_var 7) par_nil) M.len cb_lenT) (by omega) (by omega) M.range) (fun _ _ _ _ _ => tg_name 10 sc__law_led.nd)
      (fun y hy _ _ _ _ _ => pts_1 (pb_val (pr_call DW (hr.mono (by decide)) (gi e.2 y) (par_cons (pr_ix (pr_var 6) (pr_var 10) (ix_T (atI_gi (upTo_mem hy).1 (by have := (upTo_mem hy).2; omega)))) par_nil) fun u hu => h4 u (by
        have hm := gi_mem (l := e.2) (upTo_mem hy).1 (by have := (upTo_mem hy).2; omega)
        rw [hu] at hm; exact hm))))
      (fun y hy _ _ _ _ _ _ => pr_ix (pr_var 7) (pr_var 10) (ix_T (atI_gi (upTo_mem hy).1 (upTo_mem hy).2))) (by rw [upTo_len]; exact small (by omega)) sc__law_led.nd)) par_nil) M.tuple cb_tuple)) ?_ ?_
    rotate_left
    · rw [List.length_map, List.length_take]; exact smallL (by omega)
    refine ss_nil ⟨.dat Rp.int e.1, .dat rPlace.tup e.2, .dat Rp.str.tup (gi fewer e.1).2, ?_⟩
    rw [take_succ hi, List.map_append]; rfl
  rintro _ ⟨a5, a6, a7, rfl⟩
  rw [List.take_length]
  refine ss_frzL 4 ?_
  have hful : (bs.b1.map (fullRule fewer)).length = bs.b1.length := List.length_map _
  generalize bs.b1.map (fullRule fewer) = full at hful ceq
  refine ss_set 8 (A := rGram) (d := bs.b2.map (straightRule full)) (pr_lcm (C := rRule) [("entry", 11)] (straightRule full) (it_list (pr_ix (pr_var 1) pr_int ix_B2)) (fun _ _ _ _ _ => tg_name 11 sc__law_led.nd) (fun c hc _ _ _ _ _ => ?_) (small (by omega)) sc__law_led.nd) ?_ sc__law_led.nd
  · obtain ⟨c1, c2, c3, c4, c5⟩ := BO.c2 c hc
    have cl : 0 < c.length := List.length_pos_iff.mpr c1
    exact pr_pair (pr_ix (pr_ix (pr_l (pr_var 4)) (pr_ix (pr_var 11) pr_int (ix_T (atI_gi (by decide) (by omega)))) (ix_L (atI_gi c2 (by omega)))) pr_int ix_P0) (pr_ix (pr_ix (pr_l (pr_var 4)) (pr_ix (pr_var 11) (pr_neg pr_int) (ix_T (last_ix c1))) (ix_L (atI_gi c4 (by omega)))) pr_int ix_P1)
  rw [ceq]
  generalize straightOf g = straight at *
  show PSl _ _ [.dat rGram g, .dat rBooks bs, .dat Rp.tr t, .dat rGram fewer, .dat rGram full, a5, a6, a7, .dat rGram straight, .un, .un, .un] _ _
  refine ss_set 9 (pr_call D6 (hr.mono (by decide)) (bs.b3.map (gi straight), bs.b4, t) (par_cons (pr_lcm [("number", 5)] (gi straight) (it_list (pr_ix (pr_var 1) pr_int ix_B3)) (fun _ _ _ _ _ => tg_name 5 sc__law_led.nd) (fun y hy _ _ _ _ _ => pr_ix (pr_l (pr_var 8)) (pr_var 5) (ix_L (atI_gi (li3 y hy).1 (li3 y hy).2))) (small (by omega)) sc__law_led.nd) (par_cons (pr_ix (pr_var 1) pr_int ix_B4) (par_cons (pr_var 2) par_nil))) ⟨lsm, lt0, lp0⟩) ?_ sc__law_led.nd
  refine ss_set 9 (pr_call D8 (hr.mono (by decide)) (bs.b2, renum bs.b3 (leadP (bs.b3.map (gi straight)) bs.b4 t)) (par_cons (pr_ix (pr_var 1) pr_int ix_B2) (par_cons (pr_call D7 (hr.mono (by decide)) (leadP (bs.b3.map (gi straight)) bs.b4 t, bs.b3) (par_cons (pr_var 9) (par_cons (pr_ix (pr_var 1) pr_int ix_B3) par_nil)) ⟨lt1, lp1⟩) par_nil)) ⟨lt2, lp2⟩) ?_ sc__law_led.nd
  exact ss_ret (pr_call D10 (hr.mono (by decide)) (leadE bs.b1 (leadS bs.b2 (renum bs.b3 (leadP (bs.b3.map (gi straight)) bs.b4 t))), bs.b0) (par_cons (pr_call D9 (hr.mono (by decide)) (bs.b1, leadS bs.b2 (renum bs.b3 (leadP (bs.b3.map (gi straight)) bs.b4 t))) (par_cons (pr_ix (pr_var 1) pr_int ix_B1) (par_cons (pr_var 9) par_nil)) ⟨lt3, lp3⟩) (par_cons (pr_ix (pr_var 1) pr_int ix_B0) par_nil)) ⟨lt4, lp4⟩) fun _ _ h => h
end
end Rw

/-! RwHm: the laws of the mirrors that the law leans on -/
namespace Rw
open PySem (Str)
theorem tell_kind {β : Type} [Inhabited β] {first : Str} {found : List (Rule × β)} {k : Kd} (h : tellRules first found = .error k) : k ≠ .noTree := by
  unfold tellRules at h
  split at h
  · cases h
  · cases h; decide
theorem plain_kind {g : Gram} {k : Kd} (h : plain g = .error k) : k ≠ .noTree := by
  have hd : ∀ {g : Gram} {k : Kd}, dropped g = .error k → k ≠ .noTree := fun {g k} h => by
    unfold dropped at h
    split at h
    · cases h
    · cases h; decide
  unfold plain at h
  cases e0 : Rw.dropped g with
  | error k0 => rw [e0] at h; cases h; exact hd e0
  | ok x0 =>
  obtain ⟨fewer, b0⟩ := x0
  rw [e0] at h
  have h : (Rw.emptied fewer >>= _) = _ := h
  cases e1 : Rw.emptied fewer with
  | error k1 =>
    rw [e1] at h; cases h
    unfold Rw.emptied at e1
    split at e1
    · exact tell_kind e1
    · cases e1; decide
  | ok x1 =>
  obtain ⟨full, b1⟩ := x1
  rw [e1] at h
  have h : (Rw.straightened full >>= _) = _ := h
  cases e2 : Rw.straightened full with
  | error k2 =>
    rw [e2] at h; cases h
    unfold Rw.straightened at e2
    split at e2
    · exact tell_kind e2
    · cases e2; decide
  | ok x2 =>
  obtain ⟨straight, b2⟩ := x2
  rw [e2] at h
  have h : (Rw.dropped straight >>= _) = _ := h
  cases e3 : Rw.dropped straight with
  | error k3 => rw [e3] at h; cases h; exact hd e3
  | ok x3 =>
  obtain ⟨few, b3⟩ := x3
  rw [e3] at h
  have h : (Rw.paired few >>= _) = _ := h
  cases e4 : Rw.paired few with
  | error k4 =>
    rw [e4] at h; cases h
    unfold Rw.paired at e4
    split at e4
    · cases e4
    · cases e4; decide
  | ok x4 => rw [e4] at h; cases h
theorem plain_words {g tw : Gram} {bs : Books} (W : GW g) (h : plain g = .ok (tw, bs)) (w : Str) : LangS tw (gi tw 0).1 w ↔ w ≠ "" ∧ LangS g (gi g 0).1 w := by
  obtain ⟨fewer, full, straight, few, T⟩ := turns W.wf h
  constructor
  · rintro ⟨t, ht, e⟩
    have L := T.led W ht
    refine ⟨fun k => ?_, _, L.f5, L.l5.trans e⟩
    refine T.e1.filled T.w1 _ _ L.f3 ?_
    rw [L.l3, e, k]; rfl
  · rintro ⟨hw, t, ht, e⟩
    obtain ⟨u1, a1, a2⟩ := T.d0.lay T.w0 t _ ht fun _ => .self
    obtain ⟨u2, b1, b2⟩ := T.e1.lay T.w1 u1 _ a1 fun k => by
      refine hw ?_
      rw [a2, e] at k
      obtain ⟨⟨x⟩⟩ := w
      have k : x = [] := k
      rw [k]; rfl
    obtain ⟨u3, c1, c2⟩ := T.s2.lay T.w2 (namesBy_mem.mpr ⟨_, T.w2.zero, T.h2⟩) b1
    obtain ⟨u4, d1, d2⟩ := T.d3.lay T.w3 u3 _ c1 fun _ => by
      show Reach _ (gi straight 0).1 _
      rw [T.h3]; exact .self
    obtain ⟨u5, e1, e2⟩ := T.p4.lay T.w4 u4 _ d1
    exact ⟨u5, by rw [T.h5]; exact e1, by rw [e2, d2, c2, b2, a2, e]⟩
theorem plain_wl {g tw : Gram} {bs : Books} (W : GW g) (h : plain g = .ok (tw, bs)) : WL tw := by
  obtain ⟨fewer, full, straight, few, T⟩ := turns W.wf h
  refine ⟨T.w5, fun r hr p hp hl => ?_⟩
  rcases T.p4.parts hr hp with ⟨a, _⟩ | ⟨q, hq, hpq⟩
  · rw [name_letter' (newNames_name a)] at hl; cases hl
  · obtain ⟨_, _, _, hq⟩ := T.d3.rule hq
    obtain ⟨_, q2, hq2, e2⟩ := T.s2.rule hq
    rw [e2] at hpq
    obtain ⟨q3, hq3, way, hw, e3, _⟩ := T.e1.rule T.w1 hq2
    rw [e3] at hpq
    obtain ⟨hpq, _⟩ := kept_mem' hw p hpq
    obtain ⟨_, _, _, hq4⟩ := T.d0.rule hq3
    exact W.abc _ hq4 p hpq hl
theorem plain_makes {g tw : Gram} {bs : Books} (W : GW g) (h : plain g = .ok (tw, bs)) : ∀ r ∈ tw, r.1 ∈ grow okMake tw := by
  obtain ⟨fewer, full, straight, few, T⟩ := turns W.wf h
  exact T.p4.makes T.w4 (T.d3.makes T.w3)
theorem led_fits {g tw : Gram} {bs : Books} {t : Tr} (W : GW g) (h : plain g = .ok (tw, bs)) (ht : isTree tw t = true) : fitsB g (gi g 0).1 (leadAll (straightOf g) bs t) = true ∧ lets (leadAll (straightOf g) bs t) = lets t := by
  obtain ⟨fewer, full, straight, few, T⟩ := turns W.wf h
  unfold isTree isTreeOf at ht
  rw [Bool.and_eq_true] at ht
  have L := T.led W ht.1
  rw [T.all t]
  exact ⟨L.f5, L.l5⟩
/-! the books -/
theorem list_gi {α : Type} [Inhabited α] {l m : List α} (hl : l.length = m.length) (h : ∀ n : Int, 0 ≤ n → n < l.length → gi l n = gi m n) : l = m := by
  refine List.ext_getElem hl fun i h1 h2 => ?_
  have := h (i : Int) (by omega) (by omega)
  rw [gi_get h1, gi_get h2] at this
  exact this
theorem places_whole {hollow : List (Str × Tr)} : ∀ (ps : List Str) (ws : List Bool) (k : Int), ws.length = ps.length → (places hollow ps ws k).map isWhole = ws
  | [], [], _, _ => by simp [places]
  | [], _ :: _, _, h => by simp at h
  | _ :: _, [], _, h => by simp at h
  | p :: ps, w :: ws, k, h => by
    simp at h
    rw [places]
    cases w with
    | true => rw [if_pos rfl, List.map_cons, places_whole ps ws (k + 1) h]; rfl
    | false => rw [if_neg (by simp), List.map_cons, places_whole ps ws k h]; rfl
theorem places_inr {F : Str → Prop} {hollow : List (Str × Tr)} : ∀ (ps : List Str) (ws : List Bool) (k : Int), WayOf F (fun p => dhas hollow p = true) ps ws → ∀ t, Sum.inr t ∈ places hollow ps ws k → ∃ p, dhas hollow p = true ∧ t = (dget hollow p).getD default
  | [], [], _, _, t, h => by simp [places] at h
  | [], _ :: _, _, h, _, _ => h.elim
  | _ :: _, [], _, h, _, _ => h.elim
  | p :: ps, w :: ws, k, h, t, ht => by
    rw [places] at ht
    cases w with
    | true =>
      rw [if_pos rfl] at ht
      rcases List.mem_cons.mp ht with e | e
      · cases e
      · exact places_inr ps ws (k + 1) h.2.2 t e
    | false =>
      rw [if_neg (by simp)] at ht
      rcases List.mem_cons.mp ht with e | e
      · injection e with e; exact ⟨p, h.2.1 rfl, e⟩
      · exact places_inr ps ws k h.2.2 t e
theorem kept_range : ∀ (ps : List Str) (ws : List Bool), ws.length = ps.length → ((List.range ps.length).filter fun k => ws.getD k false).map (fun k => ps.getD k default) = keptParts ps ws
  | [], [], _ => rfl
  | [], _ :: _, h => by simp at h
  | _ :: _, [], h => by simp at h
  | p :: ps, w :: ws, h => by
    simp at h
    have ih := kept_range ps ws h
    rw [kept_cons, ← ih, List.length_cons, List.range_succ_eq_map, List.filter_cons, List.filter_map]
    cases w with
    | true => simp [Function.comp_def]
    | false => simp [Function.comp_def]
theorem kept_upTo {ps : List Str} {pl : List Place} {ws : List Bool} (hw : ws.length = ps.length) (h : pl.map isWhole = ws) : ((upTo ps.length).filter fun k => isWhole (gi pl k)).map (gi ps) = keptParts ps ws := by
  rw [← kept_range ps ws hw]
  unfold upTo
  rw [Int.toNat_natCast, List.filter_map, List.map_map]
  have hl : pl.length = ps.length := by rw [← hw, ← h, List.length_map]
  have e1 : (List.range ps.length).filter ((fun k : Int => isWhole (gi pl k)) ∘ Int.ofNat) = (List.range ps.length).filter fun k => ws.getD k false := by
    refine List.filter_congr fun k hk => ?_
    rw [List.mem_range] at hk
    show isWhole (gi pl (k : Int)) = _
    rw [gi_get (by omega), ← h, List.getD_eq_getElem?_getD, List.getElem?_map, List.getElem?_eq_getElem (by omega)]
    rfl
  rw [e1]
  refine List.map_congr_left fun k _ => ?_
  show gi ps (k : Int) = _
  rw [gi_nat]
theorem lp_range {g : Gram} {name : Str} {c : List Int} {here : Str} (h : LP g name c here) : ∀ i ∈ c, 0 ≤ i ∧ i < g.length := by
  induction h with
  | nil => intro i hi; cases hi
  | snoc _ h0 h1 h2 h3 ih =>
    intro j hj
    rcases List.mem_append.mp hj with e | e
    · exact ih j e
    · simp at e; subst e; exact ⟨h0, h1⟩
theorem lp_first {g : Gram} {name : Str} {c : List Int} {here : Str} (h : LP g name c here) : ∀ i : Int, (gi g i).1 = here → (gi g (gi (c ++ [i]) 0)).1 = name := by
  induction h with
  | nil => exact fun i hi => hi
  | @snoc c here j hc h0 h1 h2 h3 ih =>
    intro i _
    have := ih j h2
    cases c with
    | nil => exact this
    | cons x c => exact this
theorem book_ok {g tw : Gram} {bs : Books} (W : GW g) (h : plain g = .ok (tw, bs)) : BookOk g bs := by
  obtain ⟨fewer, full, straight, few, T⟩ := turns W.wf h
  have ef : bs.b0.map (gi g) = fewer := T.d0.eq.symm
  have hl1 := T.e1.len
  have hl2 := T.s2.len
  have h2 := T.w2.le
  have h3 := T.w3.le
  have efull : bs.b1.map (fullRule fewer) = full := by
    refine list_gi (by rw [List.length_map, hl1]) fun n h0 h1 => ?_
    rw [List.length_map] at h1
    rw [gi_map _ h0 h1]
    obtain ⟨way, a1, a2, a3, a4, a5, a6, a7⟩ := T.e1.snd n h0 (by omega)
    rw [a4]
    unfold fullRule
    rw [a5, kept_upTo a3.len (places_whole _ _ _ a3.len)]
  refine ⟨T.d0.range, ?_, fun e he => ?_, by omega, fun c hc => ?_, by omega, ?_⟩
  · rw [← T.d0.len]; exact T.w1.le
  · rw [ef, ← T.d0.len]
    obtain ⟨n, h0, h1, rfl⟩ := mem_gi he
    obtain ⟨way, a1, a2, a3, a4, a5, a6, a7⟩ := T.e1.snd n h0 (by omega)
    have hlen : (gi bs.b1 n).2.length = (gi fewer (gi bs.b1 n).1).2.length := by
      have := congrArg List.length (places_whole (hollow := emptyTrees fewer) (gi fewer (gi bs.b1 n).1).2 way 0 a3.len)
      rw [List.length_map, ← a5] at this
      rw [this, a3.len]
    refine ⟨a1, a2, hlen, ?_, fun t ht => ?_⟩
    · rw [hlen]; exact T.w1.six _ (gi_mem a1 a2)
    · rw [a5] at ht
      obtain ⟨p, k1, k2⟩ := places_inr _ _ _ a3 t ht
      have := ((emptyTrees_ok fewer).1.fit _ (dget_has k1)).2.2.1
      rw [k2]; exact this
  · obtain ⟨n, h0, h1, rfl⟩ := mem_gi hc
    obtain ⟨name, here, c, i, a1, a2, a3, a4, a5, a6, a7, a8, a9⟩ := T.s2.snd n h0 (by omega)
    rw [a9]
    have hr : ∀ j ∈ c ++ [i], 0 ≤ j ∧ j < (bs.b1.length : Int) := fun j hj => by
      rw [hl1]
      rcases List.mem_append.mp hj with e | e
      · exact lp_range a2 j e
      · simp at e; subst e; exact ⟨a4, a5⟩
    have h1 := hr (gi (c ++ [i]) 0) (gi_mem (Int.le_refl 0) (by rw [List.length_append, List.length_singleton]; omega))
    have h2 := hr (gi (c ++ [i]).reverse 0) (List.mem_reverse.mp (gi_mem (Int.le_refl 0) (by rw [List.length_reverse, List.length_append, List.length_singleton]; omega)))
    exact ⟨by simp, h1.1, h1.2, h2.1, h2.2⟩
  · rw [ef, efull, T.st]
    refine list_gi (by rw [List.length_map, hl2]) fun n h0 h1 => ?_
    rw [List.length_map] at h1
    rw [gi_map _ h0 h1]
    obtain ⟨name, here, c, i, a1, a2, a3, a4, a5, a6, a7, a8, a9⟩ := T.s2.snd n h0 (by omega)
    unfold straightRule
    rw [a9, a8, lp_first a2 i a6, List.reverse_append]
    rfl
end Rw

/-! RwZz: law -/
namespace Rw
open PySem PyProof.Rows L2
/-! words: one list only -/
theorem str_lst_inj {a b : Str} (h : a.cps.toList = b.cps.toList) : a = b := by
  obtain ⟨⟨x⟩⟩ := a; obtain ⟨⟨y⟩⟩ := b
  have h : x = y := h
  rw [h]
theorem rising_pw : ∀ (l : List Str) (p : Str), risingS p l = true → (p :: l).Nodup → (p :: l).Pairwise fun a b => a.cps.toList < b.cps.toList
  | [], p, _, _ => List.pairwise_singleton _ _
  | x :: r, p, h, n => by
    have h : (!PySem.Spec.ltCps x.cps.toList p.cps.toList && risingS x r) = true := h
    rw [Bool.and_eq_true, PyProof.Rows.ltCps_eq, Bool.not_eq_true', decide_eq_false_iff_not] at h
    have n1 := (List.nodup_cons.mp n).1
    have ih := rising_pw r x h.2 (List.nodup_cons.mp n).2
    have hpx : p.cps.toList < x.cps.toList := by
      rcases Std.lt_trichotomy p.cps.toList x.cps.toList with e | e | e
      · exact e
      · exact absurd (str_lst_inj e) fun e => n1 (by rw [e]; simp)
      · exact absurd e h.1
    refine List.pairwise_cons.mpr ⟨fun y hy => ?_, ih⟩
    rcases List.mem_cons.mp hy with e | e
    · subst e; exact hpx
    · exact List.lt_trans hpx ((List.pairwise_cons.mp ih).1 y e)
theorem sorted_pw {l : List Str} (h : sortedS l = true) (n : l.Nodup) : l.Pairwise fun a b => a.cps.toList < b.cps.toList := by
  cases l with
  | nil => exact List.Pairwise.nil
  | cons p l => exact rising_pw l p h n
theorem pw_uniq : ∀ (a b : List Str), a.Pairwise (fun a b => a.cps.toList < b.cps.toList) → b.Pairwise (fun a b => a.cps.toList < b.cps.toList) → (∀ w, w ∈ a ↔ w ∈ b) → a = b
  | [], [], _, _, _ => rfl
  | [], y :: b, _, _, h => by have := (h y).mpr (by simp); cases this
  | x :: a, [], _, _, h => by have := (h x).mp (by simp); cases this
  | x :: a, y :: b, ha, hb, h => by
    have ha' := List.pairwise_cons.mp ha
    have hb' := List.pairwise_cons.mp hb
    have irr : ∀ z : Str, ¬ z.cps.toList < z.cps.toList := fun z => List.lt_irrefl _
    have e : x = y := by
      rcases List.mem_cons.mp ((h x).mp (by simp)) with e | e
      · exact e
      · rcases List.mem_cons.mp ((h y).mpr (by simp)) with e' | e'
        · exact e'.symm
        · exact absurd (List.lt_trans (ha'.1 y e') (hb'.1 x e)) (irr x)
    subst e
    rw [pw_uniq a b ha'.2 hb'.2 fun w => ⟨fun hw => ?_, fun hw => ?_⟩]
    · rcases List.mem_cons.mp ((h w).mp (by simp [hw])) with e | e
      · subst e; exact absurd (ha'.1 w hw) (irr w)
      · exact e
    · rcases List.mem_cons.mp ((h w).mpr (by simp [hw])) with e | e
      · subst e; exact absurd (hb'.1 w hw) (irr w)
      · exact e
theorem WPost.uniq {g : Gram} {a b : List Str} (ha : WPost g a) (hb : WPost g b) : a = b :=
  pw_uniq a b (sorted_pw ha.2.1 ha.1) (sorted_pw hb.2.1 hb.1) fun w => (ha.2.2.2 w).trans (hb.2.2.2 w).symm
theorem grow_sub {ok : List Str → Rule → Bool} {g : Gram} (S : Str → Prop) (hS : ∀ ks r, r ∈ g → (∀ k ∈ ks, S k) → ok ks r = true → S r.1) : ∀ k ∈ grow ok g, S k := by
  have step : ∀ (l : Gram) (ks : List Str), (∀ r ∈ l, r ∈ g) → (∀ k ∈ ks, S k) → ∀ k ∈ l.foldl (growStep ok) ks, S k := by
    intro l
    induction l with
    | nil => intro ks _ h; exact h
    | cons r l ih =>
      intro ks hl h
      rw [List.foldl_cons]
      refine ih _ (fun x hx => hl x (by simp [hx])) ?_
      unfold growStep
      split
      · rename_i c
        rw [Bool.and_eq_true] at c
        intro k hk
        rcases List.mem_append.mp hk with e | e
        · exact h k e
        · simp at e; subst e; exact hS ks r (hl r (by simp)) h c.2
      · exact h
  have turns : ∀ (n : Nat) (ks : List Str), (∀ k ∈ ks, S k) → ∀ k ∈ growN ok g n ks, S k := by
    intro n
    induction n with
    | zero => intro ks h; exact h
    | succ n ih =>
      intro ks h
      rw [growN]
      split
      · exact step g ks (fun _ h => h) h
      · exact ih _ (step g ks (fun _ h => h) h)
  exact turns _ [] (fun k hk => by cases hk)
theorem heads_in {g : Gram} {hs : Hts} (W : WL g) (I : HtOk g hs) (hm : ∀ r ∈ g, r.1 ∈ grow okMake g) : ∀ r ∈ g, dhas hs r.1 = true := by
  intro r hr
  refine grow_sub (ok := okMake) (g := g) (fun k => dhas hs k = true) (fun ks r hr hk ho => ?_) _ (hm r hr)
  refine I.cl r hr fun p hp => ?_
  unfold okMake at ho
  have := List.all_eq_true.mp ho p hp
  rw [Bool.or_eq_true, decide_eq_true_eq] at this
  rcases this with e | e
  · exact dhas_some.mpr ⟨0, I.ti.abc p (W.abc r hr p hp e)⟩
  · exact hk p e
mutual
theorem fits_lets {g : Gram} (W : WF g) : ∀ (t : Tr) (p : Str), fitsB g p t = true → ((lets t).length : Int) ≤ 6 * count t + 1 ∧ ∀ c ∈ lets t, c < 128
  | .leaf s, p, h => by
    rw [fitsB, Bool.and_eq_true, decide_eq_true_eq] at h
    obtain ⟨rfl, h⟩ := h
    obtain ⟨⟨l⟩⟩ := s
    match l, h with
    | [c], h =>
      have h : decide (c ∈ alphaL) = true := h
      have h := of_decide_eq_true h
      unfold alphaL at h
      rw [List.mem_range'] at h
      obtain ⟨k, hk, e⟩ := h
      refine ⟨by show (1 : Int) ≤ 6 * 0 + 1; decide, fun d hd => ?_⟩
      have hd : d ∈ [c] := hd
      simp at hd; omega
  | .node n ts, p, h => by
    rw [fitsB, Bool.and_eq_true, Bool.and_eq_true, Bool.and_eq_true, decide_eq_true_eq, decide_eq_true_eq, decide_eq_true_eq] at h
    obtain ⟨⟨⟨h1, h2⟩, h3⟩, h4⟩ := h
    obtain ⟨a, b⟩ := fitsL_lets W ts _ h4
    have h6 := W.six _ (gi_mem h1 h2)
    rw [lets, count]
    exact ⟨by omega, b⟩
theorem fitsL_lets {g : Gram} (W : WF g) : ∀ (ts : List Tr) (ps : List Str), fitsL g ps ts = true → ((letsL ts).length : Int) ≤ 6 * countL ts + ps.length ∧ ∀ c ∈ letsL ts, c < 128
  | [], [], _ => by rw [letsL, countL]; exact ⟨by simp, fun c hc => by cases hc⟩
  | [], _ :: _, h => by rw [fitsL] at h; cases h
  | _ :: _, [], h => by rw [fitsL] at h; cases h
  | t :: ts, p :: ps, h => by
    rw [fitsL, Bool.and_eq_true] at h
    obtain ⟨a, b⟩ := fits_lets W t p h.1
    obtain ⟨c, d⟩ := fitsL_lets W ts ps h.2
    rw [letsL, countL, List.length_append, List.length_cons]
    refine ⟨by omega, fun x hx => ?_⟩
    rcases List.mem_append.mp hx with e | e
    · exact b x e
    · exact d x e
end
theorem lets_sok {g : Gram} (W : WF g) {t : Tr} {p : Str} (h : fitsB g p t = true) (hs : isSmall t = true) : SOk (letS t) := by
  obtain ⟨a, b⟩ := fits_lets W t p h
  unfold isSmall at hs
  rw [Bool.and_eq_true, decide_eq_true_eq] at hs
  exact sok_list.mpr ⟨by unfold strMax; omega, fun c hc => by have := b c hc; omega⟩
section
variable (P : Program) (w : World) (K : PySem.W.Frag) (mg : Str → Option Value) (base : Heap)
abbrev spLaw : Sp := spI K (ι := List Int) (fun ns => [.dat Rp.int.scr ns]) (fun _ => True) Rp.bl (fun _ => true)
abbrev D_law := ∀ f fd, Fun K "law" "law" st_law f fd → FnOk P w K mg base CX0 200 f fd ["script"] (spLaw K)
end
section
variable {P : Program} {w : World} {K : PySem.W.Frag} {mg : Str → Option Value} {base : Heap}
theorem pr_words {X : Cx} {B : Bs} {es : List Sl} {e : Expr} {g : Gram} {vs : List Str} (k : ∀ ws, WPost g ws → ws = vs) (h : PR X B es e (rX Rp.str.lst (WPost g))) : PR X B es e (Rp.str.lst.at vs) := pr_wk h fun G H v s ⟨b, hb, r⟩ => k b hb ▸ r
theorem words_pair {g tw : Gram} {bs : Books} (W : GW g) (h : plain g = .ok (tw, bs)) : ∃ vs : List Str, vs.length ≤ 13 ∧ (∀ ws, WPost g ws → ws = vs) ∧ ∀ ws, WPost tw ws → ws = vs.filter fun t => !decide (t = ("" : Str)) := by
  classical
  by_cases hg : ∃ vs, WPost g vs
  · obtain ⟨vs, h2⟩ := hg
    refine ⟨vs, okW_len h2.1 h2.2.2.1, fun ws hw => hw.uniq h2, fun ws h1 => ?_⟩
    refine pw_uniq _ _ (sorted_pw h1.2.1 h1.1) ((sorted_pw h2.2.1 h2.1).filter _) fun w => ?_
    rw [h1.2.2.2 w, List.mem_filter, h2.2.2.2 w, plain_words W h w]
    constructor
    · rintro ⟨a, b, c⟩; exact ⟨⟨a, c⟩, by simp [b]⟩
    · rintro ⟨⟨a, c⟩, b⟩; exact ⟨a, by simpa using b, c⟩
  · by_cases ht : ∃ vs, WPost tw vs
    · obtain ⟨vs, h1⟩ := ht
      refine ⟨vs, okW_len h1.1 h1.2.2.1, fun ws hw => absurd ⟨ws, hw⟩ hg, fun ws hw => ?_⟩
      rw [hw.uniq h1]
      refine (List.filter_eq_self.mpr fun w hw => ?_).symm
      have := ((plain_words W h w).mp ((h1.2.2.2 w).mp hw).2).1
      simp [this]
    · exact ⟨[], by decide, fun ws hw => absurd ⟨ws, hw⟩ hg, fun ws hw => absurd ⟨ws, hw⟩ ht⟩
theorem cb_isSumS {s : Str} {X : Cx} : Cb X (.builtin "isinstance") [Rp.str.at s, rTy "str"] (Rp.bl.at true) := cb_isi (t := "str") (k := true) (fun G H v s r => ty_str (G := G) r) (by decide +kernel)
theorem cb_isPB {α β : Type} {A : Rp α} {C : Rp β} {x : α × β} {X : Cx} : Cb X (.builtin "isinstance") [(A.pair C).at x, rTy "str"] (Rp.bl.at false) := cb_isi (t := "tuple") (k := false) (fun G H v s r => ty_pair s r) (by decide +kernel)
theorem ok_law (M : Blt mg) (D1 : D_grammar P w K mg base) (D2 : D_told1 P w K mg base) (D3 : D_told0 P w K mg base) (D4 : D_words P w K mg base) (D5 : D_heights P w K mg base) (D6 : D_grown P w K mg base 47) (D7 : D_cell_at P w K mg base) (D8 : D_law_fits P w K mg base 150) (D9 : D_small P w K mg base 170) (D10 : D_led P w K mg base) (D11 : D_letters P w K mg base 170) : D_law P w K mg base := fun f fd F => by
  classical
  refine fn_pure F sc_law (fun _ => rfl) no1 fun ns _ cdv Aa outer sh H E B hr => ?_
  show PSl _ _ [.dat Rp.int.scr ns, .un, .un, .un, .un, .un, .un, .un, .un, .un, .un] _ _
  refine ss_ownL 1 Rp.int [1] (par_cons pr_int par_nil) ?_ sc_law.nd
  refine ss_spot 1 (n := 1) (by decide) fun pp => ?_
  refine ss_setM 2 (φ := fun g : Gram => GW g) (pm_call 1 D1 (hr.mono (by decide)) (par_cons (pr_var 0) (par_cons (pr_spot 1) par_nil)) (fun G H vs _ h => ⟨ns, als_sl (ss := [.dat Rp.int.scr ns, .dat (Rp.ref pp) ()]) h, trivial, fun _ h => h⟩)) (fun g W => ?_) sc_law.nd
  have W : GW g := W
  refine ss_set 3 (pr_callT (par_cons (pr_l (pr_var 2)) par_nil) M.list cb_listL) ?_ sc_law.nd
  refine ss_set 4 (pr_call D2 (hr.mono (by decide)) g (par_cons pr_int (par_cons (pr_var 3) (par_cons pr_str par_nil))) W.wf) ?_ sc_law.nd
  show PSl _ _ [.dat Rp.int.scr ns, .own (spotAt pp), .dat rGram g, .dat rGram g, .dat (Rp.sum rPB Rp.str) (told (plain g)), .un, .un, .un, .un, .un, .un] _ _
  cases hp : plain g with
  | error k =>
    have hled : ∀ t, ledPlain g t = .error k := fun t => by unfold ledPlain; rw [hp]; rfl
    refine ss_conv 4 (A := Rp.sum rPB Rp.str) (a := told (.error k)) (C := Rp.str) (c := kdName k) (fun _ _ h => h) ?_
    show PSl _ _ [.dat Rp.int.scr ns, .own (spotAt pp), .dat rGram g, .dat rGram g, .dat Rp.str (kdName k), .un, .un, .un, .un, .un, .un] _ _
    have hk := plain_kind hp
    refine ss_ifT (pb_val (pr_callB (par_cons (pr_var 4) (par_cons (pr_ty M.str) par_nil)) M.isinstance cb_isSumS)) rfl ?_
    refine ss_ret (A := Rp.bl) (d := true) (pr_eq (pr_and (l := true) (pr_cmp (pr_var 4) (pr_l (pr_lst Rp.str ["NoTurn", "TooMany"] (par_cons pr_str (par_cons pr_str par_nil)))) cmp_inL) fun _ => pr_one (pr_eq (pr_cmp (pr_conv (C := Rp.str) (c := kdName k) (pr_call D3 (hr.mono (by decide)) (g, .leaf "a") (par_cons pr_int (par_cons (pr_var 3) (par_cons (pr_conv (C := Rp.tr) (c := .leaf "a") pr_str fun _ _ h => leaf_of h) par_nil))) ⟨W, by rw [depth]; decide⟩) (fun G v h => by
        have h : (Rp.sum Rp.tr Rp.str).rel _ G v (told (ledPlain g (.leaf "a"))) := h
        rw [hled] at h; exact h)) (pr_var 4) cmp_eqS) (by simp))) (by
      cases k with
      | noTurn => decide +kernel
      | tooMany => decide +kernel
      | noTree => exact absurd rfl hk)) fun _ _ h => h
  | ok x =>
    obtain ⟨tw, bs⟩ := x
    have hled : ∀ t, ledPlain g t = if isTree tw t then within (leadAll (straightOf g) bs t) else .error .noTree := fun t => by unfold ledPlain; rw [hp]; rfl
    have WT := plain_wl W hp
    have hm := plain_makes W hp
    have BO := book_ok W hp
    have hpos := WT.wf.pos
    have hgpos := W.wf.pos
    have tw0 : gi tw 0 ∈ tw := gi_mem (Int.le_refl 0) (by omega)
    have twN := WT.wf.name _ tw0
    have twA : isAbc (gi tw 0).1 = false := by
      cases e : isAbc (gi tw 0).1 with
      | false => rfl
      | true => have := abc_letter _ e; rw [name_letter twN] at this; cases this
    refine ss_conv 4 (A := Rp.sum rPB Rp.str) (a := told (.ok (tw, bs))) (C := rPB) (c := (tw, bs)) (fun _ _ h => h) ?_
    show PSl _ _ [.dat Rp.int.scr ns, .own (spotAt pp), .dat rGram g, .dat rGram g, .dat rPB (tw, bs), .un, .un, .un, .un, .un, .un] _ _
    refine ss_ifF (pb_val (pr_callB (par_cons (pr_var 4) (par_cons (pr_ty M.str) par_nil)) M.isinstance cb_isPB)) rfl (ss_nil ?_)
    refine ss_set 5 (pr_ix (pr_var 4) pr_int ix_P0) ?_ sc_law.nd
    show PSl _ _ [.dat Rp.int.scr ns, .own (spotAt pp), .dat rGram g, .dat rGram g, .dat rPB (tw, bs), .dat rGram tw, .un, .un, .un, .un, .un] _ _
    obtain ⟨vs, vl, v1, v2⟩ := words_pair W hp
    have WG : WL g := ⟨W.wf, W.abc⟩
    refine ss_ifF (pb_cmp (pr_words v2 (pr_callR D4 (hr.mono (by decide)) tw (par_cons (pr_var 5) (par_cons pr_int par_nil)) WT)) (pr_lc [("text", 10)] (c := fun t => !decide (t = ("" : Str))) (f := fun t => t) (it_list (pr_words v1 (pr_callR D4 (hr.mono (by decide)) g (par_cons (pr_var 2) (par_cons pr_int par_nil)) WG))) (fun _ _ _ _ _ => tg_name 10 sc_law.nd) (fun y hy _ _ _ _ _ => pts_1 (pb_cmp (pr_var 10) pr_str cmp_neS)) (fun y hy _ _ _ _ _ _ => pr_var 10) (small (by omega)) sc_law.nd (List.map_id' _)) (cmp_neQ (n := 1) (ecLst ecStr) (inj_lst inj_str) (Nat.le_of_eq (dep_lstS _)) (hu_n hr (by omega)))) (by simp) (ss_nil ?_)
    refine ss_setM 6 (φ := fun t : Tr => isLeaf t = false ∧ depth t ≤ 47) (pm_call 1 D6 (hr.mono (by decide)) (par_cons (pr_var 0) (par_cons (pr_spot 1) (par_cons (pr_var 5) (par_cons (pr_callR D5 (hr.mono (by decide)) tw (par_cons (pr_var 5) par_nil) WT.wf) (par_cons (pr_ix (pr_ix (pr_l (pr_var 5)) pr_int (ix_L (atI_gi (Int.le_refl 0) (by omega)))) pr_int ix_P0) (par_cons pr_int par_nil)))))) (fun G H vs s h => ?_)) (fun t ht => ?_) sc_law.nd
    · cases h with
      | cons h1 h => cases h with
      | cons h2 h => cases h with
      | cons h3 h => cases h with
      | cons h4 h => cases h with
      | cons h5 h => cases h with
      | cons h6 h =>
        obtain ⟨hs, hOk, r4⟩ := h4
        exact ⟨(ns, tw, hs, (gi tw 0).1, 3), als_sl (ss := [.dat Rp.int.scr ns, .dat (Rp.ref pp) (), .dat rGram tw, .dat Rp.int.dct hs, .dat Rp.str (gi tw 0).1, .dat Rp.int 3]) (.cons h1 (.cons h2 (.cons h3 (.cons r4 (.cons h5 (.cons h6 h)))))), ⟨⟨WT.wf, WT.abc, hOk, heads_in WT hOk hm⟩, .inr (List.mem_map.mpr ⟨_, tw0, rfl⟩), by show mu hs _ 3 ≤ ((47 : Nat) : Int); unfold mu; rw [if_neg (by decide)]; decide⟩, fun t ht => ⟨ht.1 twA, ht.2⟩⟩
    obtain ⟨tl, td⟩ := ht
    refine ss_set 7 (pr_call D7 (hr.mono (by decide)) (ns, 0) (par_cons (pr_var 0) (par_cons pr_int par_nil)) (Int.le_refl 0)) ?_ sc_law.nd
    show PSl _ _ [.dat Rp.int.scr ns, .own (spotAt pp), .dat rGram g, .dat rGram g, .dat rPB (tw, bs), .dat rGram tw, .dat Rp.tr t, .dat Rp.int (gi ns 0), .un, .un, .un] _ _
    refine ss_if (fun es => ∃ t : Tr, depth t ≤ 47 ∧ es = [.dat Rp.int.scr ns, .own (spotAt pp), .dat rGram g, .dat rGram g, .dat rPB (tw, bs), .dat rGram tw, .dat Rp.tr t, .dat Rp.int (gi ns 0), .un, .un, .un])
      (pb_cmp (pr_bin (pr_var 7) pr_int (bin_mod (by decide))) pr_int cmp_eqI) (fun _ => ?_) (fun _ => ss_nil ⟨t, td, rfl⟩) ?_
    · match t, tl, td with
      | .node n ts, _, td =>
        have h0 := Int.emod_nonneg (gi ns 0 / 4) (show (3 : Int) ≠ 0 by decide)
        have h1 := Int.emod_lt_of_pos (gi ns 0 / 4) (show (0 : Int) < 3 by decide)
        refine ss_lenTr 6 fun hlen => ?_
        refine ss_conv 6 (fun _ _ h => of_node h) ?_
        refine ss_set 6 (pr_pair (pr_bin (pr_ix (pr_var 6) pr_int ix_P0) (pr_ix (pr_l (pr_lst Rp.int [1, -1, 41] (par_cons pr_int (par_cons (pr_neg pr_int) (par_cons pr_int par_nil))))) (pr_bin (pr_bin (pr_var 7) pr_int (bin_div (by decide))) pr_int (bin_mod (by decide))) (ix_L (atI_gi h0 h1))) bin_add) (pr_ix (pr_var 6) pr_int ix_P1)) ?_ sc_law.nd
        refine ss_conv 6 (fun _ _ h => node_of hlen h) (ss_nil ⟨_, ?_, rfl⟩)
        rw [depth] at td ⊢; exact td
    · rintro _ ⟨t, td, rfl⟩
      refine ss_set 8 (pr_call D3 (hr.mono (by decide)) (g, t) (par_cons pr_int (par_cons (pr_var 3) (par_cons (pr_var 6) par_nil))) ⟨W, Nat.le_trans td (by decide)⟩) ?_ sc_law.nd
      refine ss_ifF (pb_cmp (pr_var 3) (pr_var 2) (cmp_neQ (n := 3) ecGram inj_gram (dep_gram _) (hu_n hr (by omega)))) (by simp) (ss_nil ?_)
      show PSl _ _ [.dat Rp.int.scr ns, .own (spotAt pp), .dat rGram g, .dat rGram g, .dat rPB (tw, bs), .dat rGram tw, .dat Rp.tr t, .dat Rp.int (gi ns 0), .dat (Rp.sum Rp.tr Rp.str) (told (ledPlain g t)), .un, .un] _ _
      have eL := hled t
      have hc : (!fitsB tw (gi tw 0).1 t || !isSmall t) = !isTree tw t := by unfold isTree isTreeOf; rw [Bool.not_and]
      refine ss_if2 (k := !isTree tw t) (pb_eq (pb_w (pbw_or (pb_not (pb_val (pr_call D8 (hr.mono (by decide)) (tw, (gi tw 0).1, t) (par_cons (pr_var 5) (par_cons (pr_ix (pr_ix (pr_l (pr_var 5)) pr_int (ix_L (atI_gi (Int.le_refl 0) (by omega)))) pr_int ix_P0) (par_cons (pr_var 6) par_nil))) ⟨WT.wf.sm, Nat.le_trans td (by decide), WT.abc, fun e => by rw [name_letter twN] at e; cases e⟩))) fun _ => pbw_or1 (pb_not (pb_val (pr_call D9 (hr.mono (by decide)) t (par_cons (pr_var 6) par_nil) (Nat.le_trans td (by decide))))))) hc) (fun hT => ?_) (fun hT => ss_nil ?_)
      · have hT : isTree tw t = false := by simpa using hT
        rw [hT] at eL
        refine ss_conv 8 (A := Rp.sum Rp.tr Rp.str) (a := told (ledPlain g t)) (C := Rp.str) (c := "NoTree") (fun G v h => by rw [eL] at h; exact h) ?_
        exact ss_ret (A := Rp.bl) (d := true) (pr_eq (pr_cmp (pr_var 8) pr_str cmp_eqS) (by decide +kernel)) fun _ _ h => h
      · have hT : isTree tw t = true := by simpa using hT
        rw [hT, if_pos rfl] at eL
        have L := led_pre W hp hT
        have ld := L.t5
        obtain ⟨lf1, lf2⟩ := led_fits W hp hT
        have hS : fitsB tw (gi tw 0).1 t = true ∧ isSmall t = true := by
          unfold isTree isTreeOf at hT; rwa [Bool.and_eq_true] at hT
        refine ss_set 9 (pr_call D10 (hr.mono (by decide)) (g, bs, t) (par_cons (pr_var 2) (par_cons (pr_ix (pr_var 4) pr_int ix_P1) (par_cons (pr_var 6) par_nil))) ⟨L, BO⟩) ?_ sc_law.nd
        show PSl _ _ [.dat Rp.int.scr ns, .own (spotAt pp), .dat rGram g, .dat rGram g, .dat rPB (tw, bs), .dat rGram tw, .dat Rp.tr t, .dat Rp.int (gi ns 0), .dat (Rp.sum Rp.tr Rp.str) (told (ledPlain g t)), .dat Rp.tr (leadAll (straightOf g) bs t), .un] _ _
        cases hW : isSmall (leadAll (straightOf g) bs t) with
        | false =>
          have eL : ledPlain g t = .error .tooMany := by rw [eL]; unfold within; rw [hW]; rfl
          refine ss_ifT (pb_not (pb_val (pr_call D9 (hr.mono (by decide)) (leadAll (straightOf g) bs t) (par_cons (pr_var 9) par_nil) ld))) (by rw [hW]; rfl) ?_
          refine ss_conv 8 (A := Rp.sum Rp.tr Rp.str) (a := told (ledPlain g t)) (C := Rp.str) (c := "TooMany") (fun G v h => by rw [eL] at h; exact h) ?_
          exact ss_ret (A := Rp.bl) (d := true) (pr_eq (pr_cmp (pr_var 8) pr_str cmp_eqS) (by decide +kernel)) fun _ _ h => h
        | true =>
          have eL : ledPlain g t = .ok (leadAll (straightOf g) bs t) := by rw [eL]; unfold within; rw [hW]; rfl
          refine ss_ifF (pb_not (pb_val (pr_call D9 (hr.mono (by decide)) (leadAll (straightOf g) bs t) (par_cons (pr_var 9) par_nil) ld))) (by rw [hW]; rfl) (ss_nil ?_)
          refine ss_conv 8 (A := Rp.sum Rp.tr Rp.str) (a := told (ledPlain g t)) (C := Rp.tr) (c := leadAll (straightOf g) bs t) (fun G v h => by rw [eL] at h; exact h) ?_
          show PSl _ _ [.dat Rp.int.scr ns, .own (spotAt pp), .dat rGram g, .dat rGram g, .dat rPB (tw, bs), .dat rGram tw, .dat Rp.tr t, .dat Rp.int (gi ns 0), .dat Rp.tr (leadAll (straightOf g) bs t), .dat Rp.tr (leadAll (straightOf g) bs t), .un] _ _
          have hd40 : depth (leadAll (straightOf g) bs t) ≤ 40 := by
            unfold isSmall at hW; rw [Bool.and_eq_true, decide_eq_true_eq, decide_eq_true_eq] at hW; exact hW.2
          have g0 : gi g 0 ∈ g := gi_mem (Int.le_refl 0) (by omega)
          refine ss_ret (A := Rp.bl) (d := true) (pr_eq (pr_and (pr_cmp (pr_var 8) (pr_var 9) (cmp_eqQ (n := 80) ecTr inj_tr (by have := depT (leadAll (straightOf g) bs t); show (encT _).depth ≤ 80; omega) (hu_n hr (by omega)))) fun _ =>
            pr_and (pr_call D8 (hr.mono (by decide)) (g, (gi g 0).1, leadAll (straightOf g) bs t) (par_cons (pr_var 2) (par_cons (pr_ix (pr_ix (pr_l (pr_var 2)) pr_int (ix_L (atI_gi (Int.le_refl 0) (by omega)))) pr_int ix_P0) (par_cons (pr_var 8) par_nil))) ⟨W.wf.sm, Nat.le_trans hd40 (by decide), W.abc, fun e => by rw [(sab_name _ (W.sab _ g0)).2] at e; cases e⟩) fun _ =>
            pr_one (pr_cmp (pr_call D11 (hr.mono (by decide)) (leadAll (straightOf g) bs t) (par_cons (pr_var 8) par_nil) ⟨ld, lets_sok W.wf lf1 hW⟩) (pr_call D11 (hr.mono (by decide)) t (par_cons (pr_var 6) par_nil) ⟨Nat.le_trans td (by decide), lets_sok WT.wf hS.1 hS.2⟩) cmp_eqS)) (by
              show (decide _ && (fitsB g (gi g 0).1 _ && decide _)) = true
              rw [lf1, lf2]; simp)) fun _ _ h => h
end
end Rw

/-! RwAs: the defs joined (printed by gen_asm.py) -/
namespace Rw
open PySem PyProof.Rows L2
structure Tops (K : PySem.W.Frag) (mg : Str → Option Value) : Prop where
  t_is_letter : Top K mg "is_letter" st_is_letter ["part"]
  t_is_name : Top K mg "is_name" st_is_name ["part"]
  t_is_rule : Top K mg "is_rule" st_is_rule ["rule"]
  t_is_grammar : Top K mg "is_grammar" st_is_grammar ["grammar"]
  t_must_be_grammar : Top K mg "must_be_grammar" st_must_be_grammar ["grammar"]
  t_names_by : Top K mg "names_by" st_names_by ["grammar"]
  t_numbers_by : Top K mg "numbers_by" st_numbers_by ["grammar", "name"]
  t_makes_by : Top K mg "makes_by" st_makes_by ["grammar"]
  t_reached_from : Top K mg "reached_from" st_reached_from ["rules", "name"]
  t_fits : Top K mg "fits" st_fits ["grammar", "part", "tree"]
  t_count_of : Top K mg "count_of" st_count_of ["tree"]
  t_depth_of : Top K mg "depth_of" st_depth_of ["tree"]
  t_is_tree_of : Top K mg "is_tree_of" st_is_tree_of ["grammar", "part", "tree"]
  t_is_tree : Top K mg "is_tree" st_is_tree ["grammar", "tree"]
  t_first_ahead : Top K mg "first_ahead" st_first_ahead ["first", "entries"]
  t_all_make : Top K mg "all_make" st_all_make ["grammar"]
  t_must_be_turned_tree : Top K mg "must_be_turned_tree" st_must_be_turned_tree ["turned", "tree"]
  t_within : Top K mg "within" st_within ["tree"]
  t_kept_numbers : Top K mg "kept_numbers" st_kept_numbers ["grammar"]
  t_dropped : Top K mg "dropped" st_dropped ["grammar"]
  t_renumbered : Top K mg "renumbered" st_renumbered ["tree", "numbers"]
  t_empty_trees : Top K mg "empty_trees" st_empty_trees ["grammar"]
  t_full_names : Top K mg "full_names" st_full_names ["grammar"]
  t_ways_to_leave : Top K mg "ways_to_leave" st_ways_to_leave ["parts", "full", "hollow"]
  t_entry_by : Top K mg "entry_by" st_entry_by ["number", "parts", "way", "hollow"]
  t_emptied : Top K mg "emptied" st_emptied ["grammar"]
  t_lead_emptied : Top K mg "lead_emptied" st_lead_emptied ["book", "tree"]
  t_is_lone : Top K mg "is_lone" st_is_lone ["rule"]
  t_chains_from : Top K mg "chains_from" st_chains_from ["grammar", "name"]
  t_straightened : Top K mg "straightened" st_straightened ["grammar"]
  t_lead_straightened : Top K mg "lead_straightened" st_lead_straightened ["book", "tree"]
  t_new_names : Top K mg "new_names" st_new_names ["grammar", "letter"]
  t_paired : Top K mg "paired" st_paired ["grammar"]
  t_lead_paired : Top K mg "lead_paired" st_lead_paired ["grammar", "book", "tree"]
  t_plain : Top K mg "plain" st_plain ["grammar"]
  t_led_plain : Top K mg "led_plain" st_led_plain ["grammar", "tree"]
  t__law_cell_at : Top K mg "_law_cell_at" st__law_cell_at ["script", "k"]
  t__law_next : Top K mg "_law_next" st__law_next ["script", "spot"]
  t__law_rule_by : Top K mg "_law_rule_by" st__law_rule_by ["cell"]
  t__law_known : Top K mg "_law_known" st__law_known ["number"]
  t__law_closed : Top K mg "_law_closed" st__law_closed ["rules"]
  t__law_grammar : Top K mg "_law_grammar" st__law_grammar ["script", "spot"]
  t__law_heights : Top K mg "_law_heights" st__law_heights ["grammar"]
  t__law_grown : Top K mg "_law_grown" st__law_grown ["script", "spot", "grammar", "heights", "name", "fuel"]
  t__law_letters : Top K mg "_law_letters" st__law_letters ["tree"]
  t__law_is_whole : Top K mg "_law_is_whole" st__law_is_whole ["number"]
  t__law_fits : Top K mg "_law_fits" st__law_fits ["grammar", "part", "tree"]
  t__law_count : Top K mg "_law_count" st__law_count ["tree"]
  t__law_kind : Top K mg "_law_kind" st__law_kind ["e"]
  t__law_joined : Top K mg "_law_joined" st__law_joined ["parts", "known", "most"]
  t__law_words : Top K mg "_law_words" st__law_words ["grammar", "most"]
  t__law_told : Top K mg "_law_told" st__law_told ["call", "grammar", "tree"]
  t__law_depth : Top K mg "_law_depth" st__law_depth ["tree"]
  t__law_is_small : Top K mg "_law_is_small" st__law_is_small ["tree"]
  t__law_empty_led : Top K mg "_law_empty_led" st__law_empty_led ["book", "tree"]
  t__law_lone_led : Top K mg "_law_lone_led" st__law_lone_led ["book", "tree"]
  t__law_two_led : Top K mg "_law_two_led" st__law_two_led ["grammar", "book", "tree"]
  t__law_numbered : Top K mg "_law_numbered" st__law_numbered ["tree", "numbers"]
  t__law_led : Top K mg "_law_led" st__law_led ["grammar", "books", "tree"]
section
variable {P : Program} {w : World} {K : PySem.W.Frag} {mg : Str → Option Value} {base : Heap} {cls : Kd → Addr}
theorem law_all (T : Tops K mg) (M : Blt mg) (X0 : ExA K mg cls) (X1 : ExB K mg cls) : D_law P w K mg base := by
  have d_is_letter : D_is_letter P w K mg base := ok_is_letter T.t_is_letter M
  have d_is_name : D_is_name P w K mg base := ok_is_name T.t_is_name M
  have d_is_rule : D_is_rule P w K mg base := ok_is_rule T.t_is_rule M d_is_letter d_is_name
  have d_is_grammar : D_is_grammar P w K mg base := ok_is_grammar T.t_is_grammar M d_is_letter d_is_rule
  have d_mbg : D_must_be_grammar P w K mg base := ok_must_be_grammar T.t_must_be_grammar d_is_grammar
  have d_names_by : D_names_by P w K mg base := ok_names_by T.t_names_by M
  have d_numbers_by : D_numbers_by P w K mg base := ok_numbers_by T.t_numbers_by M
  have d_makes_by : D_makes_by P w K mg base := ok_makes_by T.t_makes_by M d_is_letter d_names_by
  have d_full_names : D_full_names P w K mg base := ok_full_names T.t_full_names M d_is_letter
  have d_reached : D_reached_from P w K mg base := ok_reached_from T.t_reached_from d_is_letter
  have d_first_ahead : D_first_ahead P w K mg base := ok_first_ahead T.t_first_ahead
  have d_all_make : D_all_make P w K mg base := ok_all_make T.t_all_make M d_makes_by
  have d_fits : D_fits P w K mg base 150 := ok_fits T.t_fits M 150
  have d_count150 : D_count P w K mg base "count_of" 150 := ok_count_of T.t_count_of M 150
  have d_depth150 : D_depth P w K mg base "depth_of" 150 := ok_depth_of T.t_depth_of M 150
  have d_count170 : D_count P w K mg base "count_of" 170 := ok_count_of T.t_count_of M 170
  have d_depth170 : D_depth P w K mg base "depth_of" 170 := ok_depth_of T.t_depth_of M 170
  have d_is_tree_of : D_is_tree_of P w K mg base 150 := ok_is_tree_of T.t_is_tree_of M 150 d_fits d_count150 d_depth150
  have d_is_tree : D_is_tree P w K mg base 150 := ok_is_tree T.t_is_tree 150 d_mbg d_is_tree_of
  have d_mbt : D_must_be_turned_tree P w K mg base cls 150 := ok_must_be_turned_tree T.t_must_be_turned_tree X0 150 d_is_tree
  have d_within : D_within P w K mg base cls 170 := ok_within T.t_within M X0 170 d_count170 d_depth170
  have d_kept : D_kept_numbers P w K mg base := ok_kept_numbers T.t_kept_numbers M d_is_letter d_makes_by d_reached
  have d_dropped : D_dropped P w K mg base cls := ok_dropped T.t_dropped X0 d_mbg d_makes_by d_kept d_first_ahead
  have d_empty_trees : D_empty_trees P w K mg base := ok_empty_trees T.t_empty_trees M
  have d_ways : D_ways_to_leave P w K mg base := ok_ways_to_leave T.t_ways_to_leave d_is_letter
  have d_entry_by : D_entry_by P w K mg base := ok_entry_by T.t_entry_by M
  have d_emptied : D_emptied P w K mg base cls := ok_emptied T.t_emptied M X0 d_mbg d_full_names d_all_make d_empty_trees d_ways d_entry_by d_first_ahead
  have d_is_lone : D_is_lone P w K mg base := ok_is_lone T.t_is_lone M d_is_letter
  have d_chains : D_chains_from P w K mg base := ok_chains_from T.t_chains_from M d_is_lone d_numbers_by
  have d_straightened : D_straightened P w K mg base cls := ok_straightened T.t_straightened M X0 d_mbg d_all_make d_names_by d_chains d_numbers_by d_is_lone d_first_ahead
  have d_new_names : D_new_names P w K mg base := ok_new_names T.t_new_names M d_names_by
  have d_paired : D_paired P w K mg base cls := ok_paired T.t_paired M X0 d_mbg d_new_names
  have d_plain : D_plain P w K mg base cls := ok_plain T.t_plain d_dropped d_emptied d_straightened d_paired
  have d_lP : D_leadP P w K mg base "lead_paired" 40 := ok_lead_paired T.t_lead_paired M 40
  have d_rn40 : D_renum P w K mg base "renumbered" 40 := ok_renumbered T.t_renumbered M 40
  have d_rn170 : D_renum P w K mg base "renumbered" 170 := ok_renumbered T.t_renumbered M 170
  have d_lS : D_leadS P w K mg base "lead_straightened" 40 := ok_lead_straightened T.t_lead_straightened M 40
  have d_lE : D_leadE P w K mg base "lead_emptied" 160 := ok_lead_emptied T.t_lead_emptied M 160
  have d_led_plain : D_led_plain P w K mg base cls := ok_led_plain T.t_led_plain d_plain d_mbt d_dropped d_emptied d_straightened d_lP d_rn40 d_lS d_lE d_rn170 d_within
  have d_kind : D_kind P w K mg base cls := ok__law_kind T.t__law_kind M X0 X1
  have d_told1 : D_told1 P w K mg base := ok_told1 T.t__law_told X1 d_kind d_plain
  have d_told0 : D_told0 P w K mg base := ok_told0 T.t__law_told X1 d_kind d_led_plain
  have d_cell_at : D_cell_at P w K mg base := ok_cell_at T.t__law_cell_at M
  have d_next : D_next P w K mg base := ok_next T.t__law_next d_cell_at
  have d_rule_by : D_rule_by P w K mg base := ok_rule_by T.t__law_rule_by M
  have d_known : D_known P w K mg base := ok_known T.t__law_known M
  have d_closed : D_closed P w K mg base := ok_closed T.t__law_closed M
  have d_grammar : D_grammar P w K mg base := ok_grammar T.t__law_grammar M d_next d_rule_by d_known d_closed
  have d_heights : D_heights P w K mg base := ok_heights T.t__law_heights M
  have d_grown : D_grown P w K mg base 47 := ok_grown T.t__law_grown M d_next 47
  have d_letters : D_letters P w K mg base 170 := ok__law_letters T.t__law_letters M 170
  have d_whole_i : D_whole_i P w K mg base := ok_whole_i T.t__law_is_whole M
  have d_whole_p : D_whole_p P w K mg base := ok_whole_p T.t__law_is_whole M
  have d_lfits : D_law_fits P w K mg base 150 := ok__law_fits T.t__law_fits M d_whole_i 150
  have d_lcount : D_count P w K mg base "_law_count" 170 := ok__law_count T.t__law_count M 170
  have d_ldepth : D_depth P w K mg base "_law_depth" 170 := ok__law_depth T.t__law_depth M 170
  have d_small : D_small P w K mg base 170 := ok__law_is_small T.t__law_is_small 170 d_lcount d_ldepth
  have d_joined : D_joined P w K mg base := ok_joined T.t__law_joined M
  have d_words : D_words P w K mg base := ok_words T.t__law_words M d_joined
  have d_two : D_leadP P w K mg base "_law_two_led" 40 := ok__law_two_led T.t__law_two_led M 40
  have d_num40 : D_renum P w K mg base "_law_numbered" 40 := ok__law_numbered T.t__law_numbered M 40
  have d_num170 : D_renum P w K mg base "_law_numbered" 170 := ok__law_numbered T.t__law_numbered M 170
  have d_lone40 : D_leadS P w K mg base "_law_lone_led" 40 := ok__law_lone_led T.t__law_lone_led M 40
  have d_empty160 : D_leadE P w K mg base "_law_empty_led" 160 := ok__law_empty_led T.t__law_empty_led M 160
  have d_led : D_led P w K mg base := ok_led T.t__law_led M d_whole_p d_two d_num40 d_lone40 d_empty160 d_num170
  exact ok_law M d_grammar d_told1 d_told0 d_words d_heights d_grown d_cell_at d_lfits d_small d_led d_letters
end
end Rw

/-! RwHd: what the head wants -/
namespace Rw
open PySem PyProof.Rows L2
section
variable {K : PySem.W.Frag} {h : Heap} {mg : Str → Option Value}
theorem top_mk (X : K.In h) (G : h.Ns mainGlobals mg) {x : Str} {st : Stmt} {ps : List Str} {f : Addr} {oc : Value} {od an : Option Addr} {sl : Array (Option Value)} {kV dc pm cd ct : Value}
    (a : PySem.W.nsIn K mainGlobals x = some (some (.ref f))) (l : K.lookup f = some ⟨oc, od, .func (PySem.W.fnOf x x (defArgs st) (defBody st) (defScope st) .none kV dc pm an cd ct), sl⟩)
    (c : PySem.W.codeIn K cd x = true) (k : PySem.W.keepIn K (.ref f) = true)
    (hb : ∀ (kV doc pm : Value) (an : Option Addr) (cdv ct : Value) (us : List Value), us.length = ps.length → bindArgs (PySem.W.fnOf x x (defArgs st) (defBody st) (defScope st) .none kV doc pm an cdv ct) ⟨us, []⟩ = pure (ps.zip us)) : Top K mg x st ps :=
  let F := fun_mk (st := st) l c k
  ⟨f, _, F, PySem.W.mg_of X G a, F.binds hb⟩
theorem ex_mk (X : K.In h) (G : h.Ns mainGlobals mg) {a0 a1 a2 c0 c4 c5 cm : Addr}
    (g0 : PySem.W.nsIn K mainGlobals "NoTurn" = some (some (.ref a0))) (x0 : PySem.W.excIn K a0 [.type "ValueError", .type "Exception", .type "BaseException", .type "object"] "ValueError.__new__" = true) (k0 : PySem.W.keepIn K (.ref a0) = true) (b0 : PySem.W.subIn K (.ref a0) (.type "BaseException") = some true) (t0 : PySem.W.typeIn K (.ref a0) = some (.type "type"))
    (eg0 : PySem.W.findIn K (.ref a0) "__getattribute__" = some (some (.builtin "BaseException.__getattribute__"))) (ek0 : PySem.W.findIn K (.ref a0) "__getattr__" = some none) (ed0 : PySem.W.hasDictIn K a0 = true) (ea0 : PySem.W.findIn K (.ref a0) "__class__" = some (some (.builtin "object.__class__"))) (em0 : PySem.W.mroIn K a0 (.type "object") = some true)
    (g1 : PySem.W.nsIn K mainGlobals "TooMany" = some (some (.ref a1))) (x1 : PySem.W.excIn K a1 [.type "ValueError", .type "Exception", .type "BaseException", .type "object"] "ValueError.__new__" = true) (k1 : PySem.W.keepIn K (.ref a1) = true) (b1 : PySem.W.subIn K (.ref a1) (.type "BaseException") = some true) (t1 : PySem.W.typeIn K (.ref a1) = some (.type "type"))
    (eg1 : PySem.W.findIn K (.ref a1) "__getattribute__" = some (some (.builtin "BaseException.__getattribute__"))) (ek1 : PySem.W.findIn K (.ref a1) "__getattr__" = some none) (ed1 : PySem.W.hasDictIn K a1 = true) (ea1 : PySem.W.findIn K (.ref a1) "__class__" = some (some (.builtin "object.__class__"))) (em1 : PySem.W.mroIn K a1 (.type "object") = some true)
    (g2 : PySem.W.nsIn K mainGlobals "NoTree" = some (some (.ref a2))) (x2 : PySem.W.excIn K a2 [.type "ValueError", .type "Exception", .type "BaseException", .type "object"] "ValueError.__new__" = true) (k2 : PySem.W.keepIn K (.ref a2) = true) (b2 : PySem.W.subIn K (.ref a2) (.type "BaseException") = some true) (t2 : PySem.W.typeIn K (.ref a2) = some (.type "type"))
    (eg2 : PySem.W.findIn K (.ref a2) "__getattribute__" = some (some (.builtin "BaseException.__getattribute__"))) (ek2 : PySem.W.findIn K (.ref a2) "__getattr__" = some none) (ed2 : PySem.W.hasDictIn K a2 = true) (ea2 : PySem.W.findIn K (.ref a2) "__class__" = some (some (.builtin "object.__class__"))) (em2 : PySem.W.mroIn K a2 (.type "object") = some true)
    (en : PySem.W.specialIn K (.builtin "object.__class__") "__get__" = some (some (.builtin "getset_descriptor.__get__"))) (et : PySem.W.takesIn K (.builtin "object.__class__") = some true)
    (gc0 : PySem.W.nsIn K mainGlobals "NoGrammar" = some (some (.ref c0))) (qc00 : PySem.W.kitOne K (.ref a0) (.ref c0) = some false) (qc01 : PySem.W.kitOne K (.ref a1) (.ref c0) = some false) (qc02 : PySem.W.kitOne K (.ref a2) (.ref c0) = some false)
    (gc4 : PySem.W.nsIn K mainGlobals "NoSteps" = some (some (.ref c4))) (qc40 : PySem.W.kitOne K (.ref a0) (.ref c4) = some false) (qc41 : PySem.W.kitOne K (.ref a1) (.ref c4) = some false) (qc42 : PySem.W.kitOne K (.ref a2) (.ref c4) = some false)
    (gc5 : PySem.W.nsIn K mainGlobals "NoNote" = some (some (.ref c5))) (qc50 : PySem.W.kitOne K (.ref a0) (.ref c5) = some false) (qc51 : PySem.W.kitOne K (.ref a1) (.ref c5) = some false) (qc52 : PySem.W.kitOne K (.ref a2) (.ref c5) = some false)
    (kk00 : PySem.W.kitOne K (.ref a0) (.ref a0) = some true) (kk01 : PySem.W.kitOne K (.ref a0) (.ref a1) = some false) (kk02 : PySem.W.kitOne K (.ref a0) (.ref a2) = some false) (kk10 : PySem.W.kitOne K (.ref a1) (.ref a0) = some false) (kk11 : PySem.W.kitOne K (.ref a1) (.ref a1) = some true) (kk12 : PySem.W.kitOne K (.ref a1) (.ref a2) = some false) (kk20 : PySem.W.kitOne K (.ref a2) (.ref a0) = some false) (kk21 : PySem.W.kitOne K (.ref a2) (.ref a1) = some false) (kk22 : PySem.W.kitOne K (.ref a2) (.ref a2) = some true)
    (kv0 : PySem.W.kitOne K (.ref a0) (.type "ValueError") = some true) (kv1 : PySem.W.kitOne K (.ref a1) (.type "ValueError") = some true) (kv2 : PySem.W.kitOne K (.ref a2) (.type "ValueError") = some true)
    (gm : PySem.W.nsIn K mainGlobals "MakerError" = some (some (.ref cm))) (qm0 : PySem.W.exmOne K (.ref a0) (.ref cm) = some true) (qm1 : PySem.W.exmOne K (.ref a1) (.ref cm) = some true) (qm2 : PySem.W.exmOne K (.ref a2) (.ref cm) = some true) :
    ∃ cls : Kd → Addr, ExA K mg cls ∧ ExB K mg cls := by
  refine ⟨fun k => match k with | .noTurn => a0 | .tooMany => a1 | .noTree => a2, ⟨⟨PySem.W.mg_of X G g0, x0, k0, b0, t0⟩, ⟨PySem.W.mg_of X G g1, x1, k1, b1, t1⟩, ⟨PySem.W.mg_of X G g2, x2, k2, b2, t2⟩⟩, ⟨?_, ?_, ?_, ?_, ?_, ?_, ?_⟩⟩
  · intro k; cases k
    · exact ⟨eg0, ek0, b0, ed0, ea0, en, et, em0⟩
    · exact ⟨eg1, ek1, b1, ed1, ea1, en, et, em1⟩
    · exact ⟨eg2, ek2, b2, ed2, ea2, en, et, em2⟩
  · exact ⟨c0, PySem.W.mg_of X G gc0, fun k => by cases k <;> assumption⟩
  · exact ⟨c4, PySem.W.mg_of X G gc4, fun k => by cases k <;> assumption⟩
  · exact ⟨c5, PySem.W.mg_of X G gc5, fun k => by cases k <;> assumption⟩
  · intro k j; cases k <;> cases j <;> assumption
  · intro k; cases k <;> assumption
  · exact ⟨cm, PySem.W.mg_of X G gm, fun k => by cases k <;> assumption⟩
theorem head_mk {l : PySem.W.OpenLaw} {w : World} {fa : Addr} (X : K.In h) (G : h.Ns mainGlobals mg) (hfa : mg "law" = some (.ref fa)) {f : Addr} {oc : Value} {od an : Option Addr} {sl : Array (Option Value)} {kV dc pm cd ct : Value}
    (a : PySem.W.nsIn K mainGlobals "law" = some (some (.ref f))) (lk : K.lookup f = some ⟨oc, od, .func (PySem.W.fnOf "law" "law" (defArgs st_law) (defBody st_law) (defScope st_law) .none kV dc pm an cd ct), sl⟩)
    (c : PySem.W.codeIn K cd "law" = true) (k : PySem.W.keepIn K (.ref f) = true) (T : Tops K mg) (M : Blt mg) (E : ∃ cls : Kd → Addr, ExA K mg cls ∧ ExB K mg cls) :
    ∃ fd : FuncData, (∀ (s : Shared) (v : Value), BindsTo s fd ⟨[v], []⟩ [("script", v)]) ∧ ∀ base : Heap, K.In base → base.Ns mainGlobals mg → FnOk l.prog w K mg base CX0 200 fa fd ["script"] (spLaw K) := by
  have e := hfa.symm.trans (PySem.W.mg_of X G a)
  cases e
  obtain ⟨cls, X0, X1⟩ := E
  exact ⟨PySem.W.fnOf "law" "law" (defArgs st_law) (defBody st_law) (defScope st_law) .none kV dc pm an cd ct, fun s v => .of_eq rfl, fun base _ _ => law_all T M X0 X1 _ _ (fun_mk (st := st_law) lk c k)⟩
end
theorem ints_pair {K : PySem.W.Frag} {H : Hp} : ∀ ns : List Int, Paired (Rp.int.rel K H) (ns.map V.int) ns
  | [] => .nil
  | n :: ns => .cons rfl (ints_pair ns)
theorem law_sp {K : PySem.W.Frag} {H : Hp} {a : Addr} {ns : List Int} (h : ns.length ≤ 63) (hS : SqL K H a (ns.map V.int)) : spLaw K [.ref a] H (fun v _ => v = .bl true) fun _ _ _ => False := by
  exact ⟨H, ns, Same.refl H, .cons ⟨a, _, rfl, hS, ints_pair ns, small (by omega)⟩ .nil, trivial, fun v G' H' s r => r⟩
theorem walk {l : PySem.W.OpenLaw} {q : Program} {loose : List Str} {XP : (Str → Option Value) → Heap → Prop} {YP : World → Heap → Prop} {d : DefRec} {K : Params → PySem.W.Frag} (hn : l.most = some 63) (hdf : d.params.defaults = [])
    (hY : ∀ (w : World) (h : Heap), YP w h → (K w.params).In h)
    (F : ∀ (w : World) (mg : Str → Option Value) (fa : Addr) (h : Heap), (K w.params).In h → h.Ns mainGlobals mg → mg d.name = some (.ref fa) →
      ∃ fd : FuncData, (∀ (s : Shared) (u : Value), BindsTo s fd ⟨[u], []⟩ [("script", u)]) ∧ ∀ base : Heap, (K w.params).In base → base.Ns mainGlobals mg → FnOk l.prog w (K w.params) mg base CX0 200 fa fd ["script"] (spLaw (K w.params))) :
    PySem.W.WalkO q loose XP YP l.row.toRowW d [] (fun f vs => PySem.call f vs) :=
  L2.walk_of (n := 63) (k := 200) (x := "script") (CX := fun _ => CX0) (sp := fun w => spLaw (K w.params)) hn (by decide) hdf ⟨by decide, by decide, by decide⟩ hY F (fun _ _ a ns hl _ hS => law_sp hl hS) fun _ _ _ _ _ z => z
end Rw

open PySem PySem.W PyProof.Rows
set_option maxRecDepth 100000 in
set_option maxHeartbeats 0 in
theorem PySem.Challenge.cw_rulewright_k73_whole_plain_trees_holds : PySem.Challenge.rw_rulewright_k73_whole_plain_trees.Holds := by
  w_on; o_law; k_head; (case hw => w_witness2)
  k_fill
  refine Rw.walk (l := PySem.Challenge.rw_rulewright_k73_whole_plain_trees) rfl rfl (fun w h Y => PySem.W.kIn_of Y) ?F
  case F =>
    intro w mg fa h KX G hmg0
    have hmg : mg "law" = some (.ref fa) := hmg0
    clear hmg0
    have t_is_letter : Rw.Top (L2.KOf KX) mg "is_letter" Rw.st_is_letter ["part"] := by
      refine' Rw.top_mk KX G ?a ?l ?c ?k ?b
      (case a => k_is); (case l => k_is); (case c => k_is); (case k => k_is)
      (case b => exact fun _ _ _ _ _ _ us hl => match us, hl with | [_], _ => rfl)
    have t_is_name : Rw.Top (L2.KOf KX) mg "is_name" Rw.st_is_name ["part"] := by
      refine' Rw.top_mk KX G ?a ?l ?c ?k ?b
      (case a => k_is); (case l => k_is); (case c => k_is); (case k => k_is)
      (case b => exact fun _ _ _ _ _ _ us hl => match us, hl with | [_], _ => rfl)
    have t_is_rule : Rw.Top (L2.KOf KX) mg "is_rule" Rw.st_is_rule ["rule"] := by
      refine' Rw.top_mk KX G ?a ?l ?c ?k ?b
      (case a => k_is); (case l => k_is); (case c => k_is); (case k => k_is)
      (case b => exact fun _ _ _ _ _ _ us hl => match us, hl with | [_], _ => rfl)
    have t_is_grammar : Rw.Top (L2.KOf KX) mg "is_grammar" Rw.st_is_grammar ["grammar"] := by
      refine' Rw.top_mk KX G ?a ?l ?c ?k ?b
      (case a => k_is); (case l => k_is); (case c => k_is); (case k => k_is)
      (case b => exact fun _ _ _ _ _ _ us hl => match us, hl with | [_], _ => rfl)
    have t_must_be_grammar : Rw.Top (L2.KOf KX) mg "must_be_grammar" Rw.st_must_be_grammar ["grammar"] := by
      refine' Rw.top_mk KX G ?a ?l ?c ?k ?b
      (case a => k_is); (case l => k_is); (case c => k_is); (case k => k_is)
      (case b => exact fun _ _ _ _ _ _ us hl => match us, hl with | [_], _ => rfl)
    have t_names_by : Rw.Top (L2.KOf KX) mg "names_by" Rw.st_names_by ["grammar"] := by
      refine' Rw.top_mk KX G ?a ?l ?c ?k ?b
      (case a => k_is); (case l => k_is); (case c => k_is); (case k => k_is)
      (case b => exact fun _ _ _ _ _ _ us hl => match us, hl with | [_], _ => rfl)
    have t_numbers_by : Rw.Top (L2.KOf KX) mg "numbers_by" Rw.st_numbers_by ["grammar", "name"] := by
      refine' Rw.top_mk KX G ?a ?l ?c ?k ?b
      (case a => k_is); (case l => k_is); (case c => k_is); (case k => k_is)
      (case b => exact fun _ _ _ _ _ _ us hl => match us, hl with | [_, _], _ => rfl)
    have t_makes_by : Rw.Top (L2.KOf KX) mg "makes_by" Rw.st_makes_by ["grammar"] := by
      refine' Rw.top_mk KX G ?a ?l ?c ?k ?b
      (case a => k_is); (case l => k_is); (case c => k_is); (case k => k_is)
      (case b => exact fun _ _ _ _ _ _ us hl => match us, hl with | [_], _ => rfl)
    have t_reached_from : Rw.Top (L2.KOf KX) mg "reached_from" Rw.st_reached_from ["rules", "name"] := by
      refine' Rw.top_mk KX G ?a ?l ?c ?k ?b
      (case a => k_is); (case l => k_is); (case c => k_is); (case k => k_is)
      (case b => exact fun _ _ _ _ _ _ us hl => match us, hl with | [_, _], _ => rfl)
    have t_fits : Rw.Top (L2.KOf KX) mg "fits" Rw.st_fits ["grammar", "part", "tree"] := by
      refine' Rw.top_mk KX G ?a ?l ?c ?k ?b
      (case a => k_is); (case l => k_is); (case c => k_is); (case k => k_is)
      (case b => exact fun _ _ _ _ _ _ us hl => match us, hl with | [_, _, _], _ => rfl)
    have t_count_of : Rw.Top (L2.KOf KX) mg "count_of" Rw.st_count_of ["tree"] := by
      refine' Rw.top_mk KX G ?a ?l ?c ?k ?b
      (case a => k_is); (case l => k_is); (case c => k_is); (case k => k_is)
      (case b => exact fun _ _ _ _ _ _ us hl => match us, hl with | [_], _ => rfl)
    have t_depth_of : Rw.Top (L2.KOf KX) mg "depth_of" Rw.st_depth_of ["tree"] := by
      refine' Rw.top_mk KX G ?a ?l ?c ?k ?b
      (case a => k_is); (case l => k_is); (case c => k_is); (case k => k_is)
      (case b => exact fun _ _ _ _ _ _ us hl => match us, hl with | [_], _ => rfl)
    have t_is_tree_of : Rw.Top (L2.KOf KX) mg "is_tree_of" Rw.st_is_tree_of ["grammar", "part", "tree"] := by
      refine' Rw.top_mk KX G ?a ?l ?c ?k ?b
      (case a => k_is); (case l => k_is); (case c => k_is); (case k => k_is)
      (case b => exact fun _ _ _ _ _ _ us hl => match us, hl with | [_, _, _], _ => rfl)
    have t_is_tree : Rw.Top (L2.KOf KX) mg "is_tree" Rw.st_is_tree ["grammar", "tree"] := by
      refine' Rw.top_mk KX G ?a ?l ?c ?k ?b
      (case a => k_is); (case l => k_is); (case c => k_is); (case k => k_is)
      (case b => exact fun _ _ _ _ _ _ us hl => match us, hl with | [_, _], _ => rfl)
    have t_first_ahead : Rw.Top (L2.KOf KX) mg "first_ahead" Rw.st_first_ahead ["first", "entries"] := by
      refine' Rw.top_mk KX G ?a ?l ?c ?k ?b
      (case a => k_is); (case l => k_is); (case c => k_is); (case k => k_is)
      (case b => exact fun _ _ _ _ _ _ us hl => match us, hl with | [_, _], _ => rfl)
    have t_all_make : Rw.Top (L2.KOf KX) mg "all_make" Rw.st_all_make ["grammar"] := by
      refine' Rw.top_mk KX G ?a ?l ?c ?k ?b
      (case a => k_is); (case l => k_is); (case c => k_is); (case k => k_is)
      (case b => exact fun _ _ _ _ _ _ us hl => match us, hl with | [_], _ => rfl)
    have t_must_be_turned_tree : Rw.Top (L2.KOf KX) mg "must_be_turned_tree" Rw.st_must_be_turned_tree ["turned", "tree"] := by
      refine' Rw.top_mk KX G ?a ?l ?c ?k ?b
      (case a => k_is); (case l => k_is); (case c => k_is); (case k => k_is)
      (case b => exact fun _ _ _ _ _ _ us hl => match us, hl with | [_, _], _ => rfl)
    have t_within : Rw.Top (L2.KOf KX) mg "within" Rw.st_within ["tree"] := by
      refine' Rw.top_mk KX G ?a ?l ?c ?k ?b
      (case a => k_is); (case l => k_is); (case c => k_is); (case k => k_is)
      (case b => exact fun _ _ _ _ _ _ us hl => match us, hl with | [_], _ => rfl)
    have t_kept_numbers : Rw.Top (L2.KOf KX) mg "kept_numbers" Rw.st_kept_numbers ["grammar"] := by
      refine' Rw.top_mk KX G ?a ?l ?c ?k ?b
      (case a => k_is); (case l => k_is); (case c => k_is); (case k => k_is)
      (case b => exact fun _ _ _ _ _ _ us hl => match us, hl with | [_], _ => rfl)
    have t_dropped : Rw.Top (L2.KOf KX) mg "dropped" Rw.st_dropped ["grammar"] := by
      refine' Rw.top_mk KX G ?a ?l ?c ?k ?b
      (case a => k_is); (case l => k_is); (case c => k_is); (case k => k_is)
      (case b => exact fun _ _ _ _ _ _ us hl => match us, hl with | [_], _ => rfl)
    have t_renumbered : Rw.Top (L2.KOf KX) mg "renumbered" Rw.st_renumbered ["tree", "numbers"] := by
      refine' Rw.top_mk KX G ?a ?l ?c ?k ?b
      (case a => k_is); (case l => k_is); (case c => k_is); (case k => k_is)
      (case b => exact fun _ _ _ _ _ _ us hl => match us, hl with | [_, _], _ => rfl)
    have t_empty_trees : Rw.Top (L2.KOf KX) mg "empty_trees" Rw.st_empty_trees ["grammar"] := by
      refine' Rw.top_mk KX G ?a ?l ?c ?k ?b
      (case a => k_is); (case l => k_is); (case c => k_is); (case k => k_is)
      (case b => exact fun _ _ _ _ _ _ us hl => match us, hl with | [_], _ => rfl)
    have t_full_names : Rw.Top (L2.KOf KX) mg "full_names" Rw.st_full_names ["grammar"] := by
      refine' Rw.top_mk KX G ?a ?l ?c ?k ?b
      (case a => k_is); (case l => k_is); (case c => k_is); (case k => k_is)
      (case b => exact fun _ _ _ _ _ _ us hl => match us, hl with | [_], _ => rfl)
    have t_ways_to_leave : Rw.Top (L2.KOf KX) mg "ways_to_leave" Rw.st_ways_to_leave ["parts", "full", "hollow"] := by
      refine' Rw.top_mk KX G ?a ?l ?c ?k ?b
      (case a => k_is); (case l => k_is); (case c => k_is); (case k => k_is)
      (case b => exact fun _ _ _ _ _ _ us hl => match us, hl with | [_, _, _], _ => rfl)
    have t_entry_by : Rw.Top (L2.KOf KX) mg "entry_by" Rw.st_entry_by ["number", "parts", "way", "hollow"] := by
      refine' Rw.top_mk KX G ?a ?l ?c ?k ?b
      (case a => k_is); (case l => k_is); (case c => k_is); (case k => k_is)
      (case b => exact fun _ _ _ _ _ _ us hl => match us, hl with | [_, _, _, _], _ => rfl)
    have t_emptied : Rw.Top (L2.KOf KX) mg "emptied" Rw.st_emptied ["grammar"] := by
      refine' Rw.top_mk KX G ?a ?l ?c ?k ?b
      (case a => k_is); (case l => k_is); (case c => k_is); (case k => k_is)
      (case b => exact fun _ _ _ _ _ _ us hl => match us, hl with | [_], _ => rfl)
    have t_lead_emptied : Rw.Top (L2.KOf KX) mg "lead_emptied" Rw.st_lead_emptied ["book", "tree"] := by
      refine' Rw.top_mk KX G ?a ?l ?c ?k ?b
      (case a => k_is); (case l => k_is); (case c => k_is); (case k => k_is)
      (case b => exact fun _ _ _ _ _ _ us hl => match us, hl with | [_, _], _ => rfl)
    have t_is_lone : Rw.Top (L2.KOf KX) mg "is_lone" Rw.st_is_lone ["rule"] := by
      refine' Rw.top_mk KX G ?a ?l ?c ?k ?b
      (case a => k_is); (case l => k_is); (case c => k_is); (case k => k_is)
      (case b => exact fun _ _ _ _ _ _ us hl => match us, hl with | [_], _ => rfl)
    have t_chains_from : Rw.Top (L2.KOf KX) mg "chains_from" Rw.st_chains_from ["grammar", "name"] := by
      refine' Rw.top_mk KX G ?a ?l ?c ?k ?b
      (case a => k_is); (case l => k_is); (case c => k_is); (case k => k_is)
      (case b => exact fun _ _ _ _ _ _ us hl => match us, hl with | [_, _], _ => rfl)
    have t_straightened : Rw.Top (L2.KOf KX) mg "straightened" Rw.st_straightened ["grammar"] := by
      refine' Rw.top_mk KX G ?a ?l ?c ?k ?b
      (case a => k_is); (case l => k_is); (case c => k_is); (case k => k_is)
      (case b => exact fun _ _ _ _ _ _ us hl => match us, hl with | [_], _ => rfl)
    have t_lead_straightened : Rw.Top (L2.KOf KX) mg "lead_straightened" Rw.st_lead_straightened ["book", "tree"] := by
      refine' Rw.top_mk KX G ?a ?l ?c ?k ?b
      (case a => k_is); (case l => k_is); (case c => k_is); (case k => k_is)
      (case b => exact fun _ _ _ _ _ _ us hl => match us, hl with | [_, _], _ => rfl)
    have t_new_names : Rw.Top (L2.KOf KX) mg "new_names" Rw.st_new_names ["grammar", "letter"] := by
      refine' Rw.top_mk KX G ?a ?l ?c ?k ?b
      (case a => k_is); (case l => k_is); (case c => k_is); (case k => k_is)
      (case b => exact fun _ _ _ _ _ _ us hl => match us, hl with | [_, _], _ => rfl)
    have t_paired : Rw.Top (L2.KOf KX) mg "paired" Rw.st_paired ["grammar"] := by
      refine' Rw.top_mk KX G ?a ?l ?c ?k ?b
      (case a => k_is); (case l => k_is); (case c => k_is); (case k => k_is)
      (case b => exact fun _ _ _ _ _ _ us hl => match us, hl with | [_], _ => rfl)
    have t_lead_paired : Rw.Top (L2.KOf KX) mg "lead_paired" Rw.st_lead_paired ["grammar", "book", "tree"] := by
      refine' Rw.top_mk KX G ?a ?l ?c ?k ?b
      (case a => k_is); (case l => k_is); (case c => k_is); (case k => k_is)
      (case b => exact fun _ _ _ _ _ _ us hl => match us, hl with | [_, _, _], _ => rfl)
    have t_plain : Rw.Top (L2.KOf KX) mg "plain" Rw.st_plain ["grammar"] := by
      refine' Rw.top_mk KX G ?a ?l ?c ?k ?b
      (case a => k_is); (case l => k_is); (case c => k_is); (case k => k_is)
      (case b => exact fun _ _ _ _ _ _ us hl => match us, hl with | [_], _ => rfl)
    have t_led_plain : Rw.Top (L2.KOf KX) mg "led_plain" Rw.st_led_plain ["grammar", "tree"] := by
      refine' Rw.top_mk KX G ?a ?l ?c ?k ?b
      (case a => k_is); (case l => k_is); (case c => k_is); (case k => k_is)
      (case b => exact fun _ _ _ _ _ _ us hl => match us, hl with | [_, _], _ => rfl)
    have t__law_cell_at : Rw.Top (L2.KOf KX) mg "_law_cell_at" Rw.st__law_cell_at ["script", "k"] := by
      refine' Rw.top_mk KX G ?a ?l ?c ?k ?b
      (case a => k_is); (case l => k_is); (case c => k_is); (case k => k_is)
      (case b => exact fun _ _ _ _ _ _ us hl => match us, hl with | [_, _], _ => rfl)
    have t__law_next : Rw.Top (L2.KOf KX) mg "_law_next" Rw.st__law_next ["script", "spot"] := by
      refine' Rw.top_mk KX G ?a ?l ?c ?k ?b
      (case a => k_is); (case l => k_is); (case c => k_is); (case k => k_is)
      (case b => exact fun _ _ _ _ _ _ us hl => match us, hl with | [_, _], _ => rfl)
    have t__law_rule_by : Rw.Top (L2.KOf KX) mg "_law_rule_by" Rw.st__law_rule_by ["cell"] := by
      refine' Rw.top_mk KX G ?a ?l ?c ?k ?b
      (case a => k_is); (case l => k_is); (case c => k_is); (case k => k_is)
      (case b => exact fun _ _ _ _ _ _ us hl => match us, hl with | [_], _ => rfl)
    have t__law_known : Rw.Top (L2.KOf KX) mg "_law_known" Rw.st__law_known ["number"] := by
      refine' Rw.top_mk KX G ?a ?l ?c ?k ?b
      (case a => k_is); (case l => k_is); (case c => k_is); (case k => k_is)
      (case b => exact fun _ _ _ _ _ _ us hl => match us, hl with | [_], _ => rfl)
    have t__law_closed : Rw.Top (L2.KOf KX) mg "_law_closed" Rw.st__law_closed ["rules"] := by
      refine' Rw.top_mk KX G ?a ?l ?c ?k ?b
      (case a => k_is); (case l => k_is); (case c => k_is); (case k => k_is)
      (case b => exact fun _ _ _ _ _ _ us hl => match us, hl with | [_], _ => rfl)
    have t__law_grammar : Rw.Top (L2.KOf KX) mg "_law_grammar" Rw.st__law_grammar ["script", "spot"] := by
      refine' Rw.top_mk KX G ?a ?l ?c ?k ?b
      (case a => k_is); (case l => k_is); (case c => k_is); (case k => k_is)
      (case b => exact fun _ _ _ _ _ _ us hl => match us, hl with | [_, _], _ => rfl)
    have t__law_heights : Rw.Top (L2.KOf KX) mg "_law_heights" Rw.st__law_heights ["grammar"] := by
      refine' Rw.top_mk KX G ?a ?l ?c ?k ?b
      (case a => k_is); (case l => k_is); (case c => k_is); (case k => k_is)
      (case b => exact fun _ _ _ _ _ _ us hl => match us, hl with | [_], _ => rfl)
    have t__law_grown : Rw.Top (L2.KOf KX) mg "_law_grown" Rw.st__law_grown ["script", "spot", "grammar", "heights", "name", "fuel"] := by
      refine' Rw.top_mk KX G ?a ?l ?c ?k ?b
      (case a => k_is); (case l => k_is); (case c => k_is); (case k => k_is)
      (case b => exact fun _ _ _ _ _ _ us hl => match us, hl with | [_, _, _, _, _, _], _ => rfl)
    have t__law_letters : Rw.Top (L2.KOf KX) mg "_law_letters" Rw.st__law_letters ["tree"] := by
      refine' Rw.top_mk KX G ?a ?l ?c ?k ?b
      (case a => k_is); (case l => k_is); (case c => k_is); (case k => k_is)
      (case b => exact fun _ _ _ _ _ _ us hl => match us, hl with | [_], _ => rfl)
    have t__law_is_whole : Rw.Top (L2.KOf KX) mg "_law_is_whole" Rw.st__law_is_whole ["number"] := by
      refine' Rw.top_mk KX G ?a ?l ?c ?k ?b
      (case a => k_is); (case l => k_is); (case c => k_is); (case k => k_is)
      (case b => exact fun _ _ _ _ _ _ us hl => match us, hl with | [_], _ => rfl)
    have t__law_fits : Rw.Top (L2.KOf KX) mg "_law_fits" Rw.st__law_fits ["grammar", "part", "tree"] := by
      refine' Rw.top_mk KX G ?a ?l ?c ?k ?b
      (case a => k_is); (case l => k_is); (case c => k_is); (case k => k_is)
      (case b => exact fun _ _ _ _ _ _ us hl => match us, hl with | [_, _, _], _ => rfl)
    have t__law_count : Rw.Top (L2.KOf KX) mg "_law_count" Rw.st__law_count ["tree"] := by
      refine' Rw.top_mk KX G ?a ?l ?c ?k ?b
      (case a => k_is); (case l => k_is); (case c => k_is); (case k => k_is)
      (case b => exact fun _ _ _ _ _ _ us hl => match us, hl with | [_], _ => rfl)
    have t__law_kind : Rw.Top (L2.KOf KX) mg "_law_kind" Rw.st__law_kind ["e"] := by
      refine' Rw.top_mk KX G ?a ?l ?c ?k ?b
      (case a => k_is); (case l => k_is); (case c => k_is); (case k => k_is)
      (case b => exact fun _ _ _ _ _ _ us hl => match us, hl with | [_], _ => rfl)
    have t__law_joined : Rw.Top (L2.KOf KX) mg "_law_joined" Rw.st__law_joined ["parts", "known", "most"] := by
      refine' Rw.top_mk KX G ?a ?l ?c ?k ?b
      (case a => k_is); (case l => k_is); (case c => k_is); (case k => k_is)
      (case b => exact fun _ _ _ _ _ _ us hl => match us, hl with | [_, _, _], _ => rfl)
    have t__law_words : Rw.Top (L2.KOf KX) mg "_law_words" Rw.st__law_words ["grammar", "most"] := by
      refine' Rw.top_mk KX G ?a ?l ?c ?k ?b
      (case a => k_is); (case l => k_is); (case c => k_is); (case k => k_is)
      (case b => exact fun _ _ _ _ _ _ us hl => match us, hl with | [_, _], _ => rfl)
    have t__law_told : Rw.Top (L2.KOf KX) mg "_law_told" Rw.st__law_told ["call", "grammar", "tree"] := by
      refine' Rw.top_mk KX G ?a ?l ?c ?k ?b
      (case a => k_is); (case l => k_is); (case c => k_is); (case k => k_is)
      (case b => exact fun _ _ _ _ _ _ us hl => match us, hl with | [_, _, _], _ => rfl)
    have t__law_depth : Rw.Top (L2.KOf KX) mg "_law_depth" Rw.st__law_depth ["tree"] := by
      refine' Rw.top_mk KX G ?a ?l ?c ?k ?b
      (case a => k_is); (case l => k_is); (case c => k_is); (case k => k_is)
      (case b => exact fun _ _ _ _ _ _ us hl => match us, hl with | [_], _ => rfl)
    have t__law_is_small : Rw.Top (L2.KOf KX) mg "_law_is_small" Rw.st__law_is_small ["tree"] := by
      refine' Rw.top_mk KX G ?a ?l ?c ?k ?b
      (case a => k_is); (case l => k_is); (case c => k_is); (case k => k_is)
      (case b => exact fun _ _ _ _ _ _ us hl => match us, hl with | [_], _ => rfl)
    have t__law_empty_led : Rw.Top (L2.KOf KX) mg "_law_empty_led" Rw.st__law_empty_led ["book", "tree"] := by
      refine' Rw.top_mk KX G ?a ?l ?c ?k ?b
      (case a => k_is); (case l => k_is); (case c => k_is); (case k => k_is)
      (case b => exact fun _ _ _ _ _ _ us hl => match us, hl with | [_, _], _ => rfl)
    have t__law_lone_led : Rw.Top (L2.KOf KX) mg "_law_lone_led" Rw.st__law_lone_led ["book", "tree"] := by
      refine' Rw.top_mk KX G ?a ?l ?c ?k ?b
      (case a => k_is); (case l => k_is); (case c => k_is); (case k => k_is)
      (case b => exact fun _ _ _ _ _ _ us hl => match us, hl with | [_, _], _ => rfl)
    have t__law_two_led : Rw.Top (L2.KOf KX) mg "_law_two_led" Rw.st__law_two_led ["grammar", "book", "tree"] := by
      refine' Rw.top_mk KX G ?a ?l ?c ?k ?b
      (case a => k_is); (case l => k_is); (case c => k_is); (case k => k_is)
      (case b => exact fun _ _ _ _ _ _ us hl => match us, hl with | [_, _, _], _ => rfl)
    have t__law_numbered : Rw.Top (L2.KOf KX) mg "_law_numbered" Rw.st__law_numbered ["tree", "numbers"] := by
      refine' Rw.top_mk KX G ?a ?l ?c ?k ?b
      (case a => k_is); (case l => k_is); (case c => k_is); (case k => k_is)
      (case b => exact fun _ _ _ _ _ _ us hl => match us, hl with | [_, _], _ => rfl)
    have t__law_led : Rw.Top (L2.KOf KX) mg "_law_led" Rw.st__law_led ["grammar", "books", "tree"] := by
      refine' Rw.top_mk KX G ?a ?l ?c ?k ?b
      (case a => k_is); (case l => k_is); (case c => k_is); (case k => k_is)
      (case b => exact fun _ _ _ _ _ _ us hl => match us, hl with | [_, _, _], _ => rfl)
    have T : Rw.Tops (L2.KOf KX) mg := ⟨t_is_letter, t_is_name, t_is_rule, t_is_grammar, t_must_be_grammar, t_names_by, t_numbers_by, t_makes_by, t_reached_from, t_fits, t_count_of, t_depth_of, t_is_tree_of, t_is_tree, t_first_ahead, t_all_make, t_must_be_turned_tree, t_within, t_kept_numbers, t_dropped, t_renumbered, t_empty_trees, t_full_names, t_ways_to_leave, t_entry_by, t_emptied, t_lead_emptied, t_is_lone, t_chains_from, t_straightened, t_lead_straightened, t_new_names, t_paired, t_lead_paired, t_plain, t_led_plain, t__law_cell_at, t__law_next, t__law_rule_by, t__law_known, t__law_closed, t__law_grammar, t__law_heights, t__law_grown, t__law_letters, t__law_is_whole, t__law_fits, t__law_count, t__law_kind, t__law_joined, t__law_words, t__law_told, t__law_depth, t__law_is_small, t__law_empty_led, t__law_lone_led, t__law_two_led, t__law_numbered, t__law_led⟩
    have z_len : mg "len" = none := PySem.W.mg_none_of KX G (by k_is)
    have z_all : mg "all" = none := PySem.W.mg_none_of KX G (by k_is)
    have z_isinstance : mg "isinstance" = none := PySem.W.mg_none_of KX G (by k_is)
    have z_enumerate : mg "enumerate" = none := PySem.W.mg_none_of KX G (by k_is)
    have z_range : mg "range" = none := PySem.W.mg_none_of KX G (by k_is)
    have z_tuple : mg "tuple" = none := PySem.W.mg_none_of KX G (by k_is)
    have z_list : mg "list" = none := PySem.W.mg_none_of KX G (by k_is)
    have z_sum : mg "sum" = none := PySem.W.mg_none_of KX G (by k_is)
    have z_max : mg "max" = none := PySem.W.mg_none_of KX G (by k_is)
    have z_min : mg "min" = none := PySem.W.mg_none_of KX G (by k_is)
    have z_sorted : mg "sorted" = none := PySem.W.mg_none_of KX G (by k_is)
    have z_str : mg "str" = none := PySem.W.mg_none_of KX G (by k_is)
    have z_int : mg "int" = none := PySem.W.mg_none_of KX G (by k_is)
    have z_bool : mg "bool" = none := PySem.W.mg_none_of KX G (by k_is)
    have z_reversed : mg "reversed" = none := PySem.W.mg_none_of KX G (by k_is)
    have z_ValueError : mg "ValueError" = none := PySem.W.mg_none_of KX G (by k_is)
    have z_rules40 : ∃ t, mg "MOST_RULES" = some (.int 40 t) := ⟨_, PySem.W.mg_of KX G (by k_is)⟩
    have z_parts6 : ∃ t, mg "MOST_PARTS" = some (.int 6 t) := ⟨_, PySem.W.mg_of KX G (by k_is)⟩
    have z_name8 : ∃ t, mg "MOST_NAME" = some (.int 8 t) := ⟨_, PySem.W.mg_of KX G (by k_is)⟩
    have z_letters : ∃ t, mg "LETTERS" = some (.str "abcdefghijklmnopqrstuvwxyz" t) := ⟨_, PySem.W.mg_of KX G (by k_is)⟩
    have z_capitals : ∃ t, mg "CAPITALS" = some (.str "ABCDEFGHIJKLMNOPQRSTUVWXYZ" t) := ⟨_, PySem.W.mg_of KX G (by k_is)⟩
    have z_figures : ∃ t, mg "FIGURES" = some (.str "0123456789" t) := ⟨_, PySem.W.mg_of KX G (by k_is)⟩
    have z_tree200 : ∃ t, mg "MOST_IN_TREE" = some (.int 200 t) := ⟨_, PySem.W.mg_of KX G (by k_is)⟩
    have z_deep40 : ∃ t, mg "DEEPEST" = some (.int 40 t) := ⟨_, PySem.W.mg_of KX G (by k_is)⟩
    have M : Rw.Blt mg := ⟨z_len, z_all, z_isinstance, z_enumerate, z_range, z_tuple, z_list, z_sum, z_max, z_min, z_sorted, z_str, z_int, z_bool, z_reversed, z_ValueError, z_rules40, z_parts6, z_name8, z_letters, z_capitals, z_figures, z_tree200, z_deep40⟩
    have E : ∃ cls : Rw.Kd → Addr, Rw.ExA (L2.KOf KX) mg cls ∧ Rw.ExB (L2.KOf KX) mg cls := by
      unfold L2.KOf
      refine' Rw.ex_mk KX G ?rw_g0 ?rw_x0 ?rw_k0 ?rw_b0 ?rw_t0 ?rw_eg0 ?rw_ek0 ?rw_ed0 ?rw_ea0 ?rw_em0 ?rw_g1 ?rw_x1 ?rw_k1 ?rw_b1 ?rw_t1 ?rw_eg1 ?rw_ek1 ?rw_ed1 ?rw_ea1 ?rw_em1 ?rw_g2 ?rw_x2 ?rw_k2 ?rw_b2 ?rw_t2 ?rw_eg2 ?rw_ek2 ?rw_ed2 ?rw_ea2 ?rw_em2 ?rw_en ?rw_et ?rw_gc0 ?rw_qc00 ?rw_qc01 ?rw_qc02 ?rw_gc4 ?rw_qc40 ?rw_qc41 ?rw_qc42 ?rw_gc5 ?rw_qc50 ?rw_qc51 ?rw_qc52 ?rw_kk00 ?rw_kk01 ?rw_kk02 ?rw_kk10 ?rw_kk11 ?rw_kk12 ?rw_kk20 ?rw_kk21 ?rw_kk22 ?rw_kv0 ?rw_kv1 ?rw_kv2 ?rw_gm ?rw_qm0 ?rw_qm1 ?rw_qm2
      (case rw_g0 => first | k_is | k_exc | kernel_rfl)
      (case rw_g1 => first | k_is | k_exc | kernel_rfl)
      (case rw_g2 => first | k_is | k_exc | kernel_rfl)
      (case rw_gc0 => first | k_is | k_exc | kernel_rfl)
      (case rw_gc4 => first | k_is | k_exc | kernel_rfl)
      (case rw_gc5 => first | k_is | k_exc | kernel_rfl)
      (case rw_gm => first | k_is | k_exc | kernel_rfl)
      (case rw_x0 => first | k_is | k_exc | kernel_rfl)
      (case rw_k0 => first | k_is | k_exc | kernel_rfl)
      (case rw_b0 => first | k_is | k_exc | kernel_rfl)
      (case rw_t0 => first | k_is | k_exc | kernel_rfl)
      (case rw_eg0 => first | k_is | k_exc | kernel_rfl)
      (case rw_ek0 => first | k_is | k_exc | kernel_rfl)
      (case rw_ed0 => first | k_is | k_exc | kernel_rfl)
      (case rw_ea0 => first | k_is | k_exc | kernel_rfl)
      (case rw_em0 => first | k_is | k_exc | kernel_rfl)
      (case rw_x1 => first | k_is | k_exc | kernel_rfl)
      (case rw_k1 => first | k_is | k_exc | kernel_rfl)
      (case rw_b1 => first | k_is | k_exc | kernel_rfl)
      (case rw_t1 => first | k_is | k_exc | kernel_rfl)
      (case rw_eg1 => first | k_is | k_exc | kernel_rfl)
      (case rw_ek1 => first | k_is | k_exc | kernel_rfl)
      (case rw_ed1 => first | k_is | k_exc | kernel_rfl)
      (case rw_ea1 => first | k_is | k_exc | kernel_rfl)
      (case rw_em1 => first | k_is | k_exc | kernel_rfl)
      (case rw_x2 => first | k_is | k_exc | kernel_rfl)
      (case rw_k2 => first | k_is | k_exc | kernel_rfl)
      (case rw_b2 => first | k_is | k_exc | kernel_rfl)
      (case rw_t2 => first | k_is | k_exc | kernel_rfl)
      (case rw_eg2 => first | k_is | k_exc | kernel_rfl)
      (case rw_ek2 => first | k_is | k_exc | kernel_rfl)
      (case rw_ed2 => first | k_is | k_exc | kernel_rfl)
      (case rw_ea2 => first | k_is | k_exc | kernel_rfl)
      (case rw_em2 => first | k_is | k_exc | kernel_rfl)
      (case rw_en => first | k_is | k_exc | kernel_rfl)
      (case rw_et => first | k_is | k_exc | kernel_rfl)
      (case rw_qc00 => first | k_is | k_exc | kernel_rfl)
      (case rw_qc01 => first | k_is | k_exc | kernel_rfl)
      (case rw_qc02 => first | k_is | k_exc | kernel_rfl)
      (case rw_qc40 => first | k_is | k_exc | kernel_rfl)
      (case rw_qc41 => first | k_is | k_exc | kernel_rfl)
      (case rw_qc42 => first | k_is | k_exc | kernel_rfl)
      (case rw_qc50 => first | k_is | k_exc | kernel_rfl)
      (case rw_qc51 => first | k_is | k_exc | kernel_rfl)
      (case rw_qc52 => first | k_is | k_exc | kernel_rfl)
      (case rw_kk00 => first | k_is | k_exc | kernel_rfl)
      (case rw_kk01 => first | k_is | k_exc | kernel_rfl)
      (case rw_kk02 => first | k_is | k_exc | kernel_rfl)
      (case rw_kk10 => first | k_is | k_exc | kernel_rfl)
      (case rw_kk11 => first | k_is | k_exc | kernel_rfl)
      (case rw_kk12 => first | k_is | k_exc | kernel_rfl)
      (case rw_kk20 => first | k_is | k_exc | kernel_rfl)
      (case rw_kk21 => first | k_is | k_exc | kernel_rfl)
      (case rw_kk22 => first | k_is | k_exc | kernel_rfl)
      (case rw_kv0 => first | k_is | k_exc | kernel_rfl)
      (case rw_kv1 => first | k_is | k_exc | kernel_rfl)
      (case rw_kv2 => first | k_is | k_exc | kernel_rfl)
      (case rw_qm0 => first | k_is | k_exc | kernel_rfl)
      (case rw_qm1 => first | k_is | k_exc | kernel_rfl)
      (case rw_qm2 => first | k_is | k_exc | kernel_rfl)
    refine' Rw.head_mk KX G hmg ?a ?l ?c ?k T M E
    (case a => k_is); (case l => k_is); (case c => k_is); (case k => k_is)
#print axioms PySem.Challenge.cw_rulewright_k73_whole_plain_trees_holds
