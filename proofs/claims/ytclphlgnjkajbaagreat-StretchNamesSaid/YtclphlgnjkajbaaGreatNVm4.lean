/- The logical machine, part 4: SvSortI. -/
import Derived.Test.YtclphlgnjkajbaaGreatNVm3
import Derived.Sort.Grow
open List renaming pairwise_cons->aa,getElem?_eq_some_iff->ac,getElem?_map->ag,mem_cons->ai
open Array renaming getElem?_modify->ae,getElem?_mapIdx->af
open Option renaming map_some->ah
/- slices.Sort of numbers: the table's entry, by what the library's law says of the function. -/
namespace Go.Vm
theorem CN (a:Int): ∀l:List Int,(RS a l).Perm (a::l)
 | []=> .refl _
 |b::r=>by
  unfold RS;cases decide (a<=b)
  · exact ((CN a r).cons b).trans (.swap a b r)
  exact .refl _
theorem yZ: ∀l:List Int,(lO l).Perm l
 | []=> .refl _
 |a::r=>(CN a _).trans ((yZ r).cons a)
theorem DL (a:Int): ∀{l:List Int},l.Pairwise (· <= ·)->(RS a l).Pairwise (· <= ·)
 | [],_=>by simp [RS]
 |b::r,h=>by
  obtain ⟨h1,h2⟩:=aa.1 h;unfold RS;cases hc:decide (a<=b)
  · have hc: ¬a<=b:=by simpa using hc
    refine aa.2 ⟨fun x hx=>?_,DL a h2⟩
    rcases ai.1 ((CN a r).mem_iff.1 hx) with rfl|hx
    · omega
    exact h1 x hx
  have hc:a<=b:=by simpa using hc
  refine aa.2 ⟨fun x hx=>?_,h⟩
  rcases ai.1 hx with rfl|hx
  · exact hc
  have:=h1 x hx;omega
theorem AV: ∀l:List Int,(lO l).Pairwise (· <= ·)
 | []=> .nil
 |a::r=>DL a (AV r)
theorem WV (l:List Int):(lO l).length=l.length:=(yZ l).length_eq
theorem PC (l:List Int):l.mergeSort (fun x y=>decide (x<=y))=lO l:=by
 refine List.Perm.eq_of_pairwise (le:=(· <= ·)) (fun a b _ _ h1 h2=>Int.le_antisymm h1 h2) ?_ (AV l) ((List.mergeSort_perm _ _).trans (yZ l).symm)
 have:=List.pairwise_mergeSort (le:=fun x y:Int=>decide (x<=y)) (fun a b c h1 h2=>by simp at*;omega) (fun a b=>by simp;omega) l
 exact this.imp fun h=>by simpa using h
theorem SO {P:Program} {f:FuncId}
 (H1: ∀(blk off cap:Nat) (zs:List Int) (w:World),Sort.Holds (Value.int .i64) w blk off zs.toArray->blk<w.heap.size->zs.length<4611686018427387904->
  Calls P f #[.slice (some ⟨blk,off,none⟩) zs.length cap] w fun e w'=>e= .returned (.tuple #[])/\ ∃n os,w'=Sort.grow (Sort.putRow (Value.int .i64) (Sort.ahead w n) blk off (zs.mergeSort fun x y=>decide (x<=y)).toArray) os)
 (b off c:Nat) (l:List Int) (arr:Array Value) (el:TypeId) (w:World) (hmost:l.length<=1048576) (hw:w.heap[b]? =some (.cells arr el (0,0)))
 (hat:bJ (fun k=>arr[k]?) off 1 (l.map (RT.pv [.i .i64]))) (hfit:off+l.length*1<=arr.size):
 Calls P f #[.slice (some ⟨b,off,none⟩) l.length c] w fun x w'=>x= .returned (.tuple #[])/\(∃fin:Array Value,fin.size=arr.size/\w'.heap[b]? =some (.cells fin el (0,0))/\bJ (fun k=>fin[k]?) off 1 ((lO l).map (RT.pv [.i .i64]))/\
  ∀j:Nat,off+l.length*1<=j->fin[j]? =arr[j]?)/\(∀b':Nat,b'<w.heap.size->b'≠b->w'.heap[b']? =w.heap[b']?)/\w.heap.size<=w'.heap.size/\w'.os=w.os/\w'.tape=w.tape/\w'.output=w.output:=by
 have hblk:b<w.heap.size:=(Array.getElem?_eq_some_iff.1 hw).1;have hfit:off+l.length<=arr.size:=by omega
 have cells: ∀(j:Nat),j<l.length->arr[off+j]? =some (.int .i64 (l.toArray)[j]!):=fun j hj=>by
  have h1:(l.map (RT.pv [.i .i64]))[j]? =some (RT.pv [.i .i64] l[j]):=by rw [ag,List.getElem?_eq_getElem hj];rfl
  obtain ⟨_,h2⟩:=hat j _ h1;obtain ⟨v,v1,v2⟩:=h2 0 (.int .i64 l[j]) rfl;injection v1 with v1;subst v1;rw [show off+j*1+0=off+j by omega] at v2
  have:(l.toArray)[j]! =l[j]:=by rw [getElem!_pos _ j (by simpa using hj)];simp
  rw [this];exact v2
 have hH:Sort.Holds (Value.int .i64) w b off l.toArray:=fun j hj=>by
  have hj:j<l.length:=by simpa using hj
  refine ⟨?_,?_⟩
  · simp only [World.cell?,hw];exact cells j hj
  simp [World.frozen?,hw]
 refine (H1 b off c l w hH hblk (by omega)).mono fun x w' ⟨hx,n,os,hw'⟩=>⟨hx,?_⟩
 subst hw';rw [PC];have hml:(lO l).length=l.length:=WV l;have hp:(Sort.putRow (Value.int .i64) (Sort.ahead w n) b off (lO l).toArray).heap=w.heap.modify b (Sort.onCells (Sort.putCells (Value.int .i64) off (lO l).toArray)):=rfl;have hsz:(w.heap.modify b (Sort.onCells (Sort.putCells (Value.int .i64) off (lO l).toArray))).size=w.heap.size:=Array.size_modify
 have hget: ∀k:Nat,k<w.heap.size->(Sort.grow (Sort.putRow (Value.int .i64) (Sort.ahead w n) b off (lO l).toArray) os).heap[k]? =(w.heap.modify b (Sort.onCells (Sort.putCells (Value.int .i64) off (lO l).toArray)))[k]?:=fun k hk=>by
  show (_++os)[k]? =_;rw [hp,Array.getElem?_append,if_pos (by rw [hsz];exact hk)]
 refine ⟨⟨Sort.putCells (Value.int .i64) off (lO l).toArray arr,by simp [Sort.putCells],?_,?_,?_⟩,fun k hk hne=>?_,?_,rfl,rfl,rfl⟩
 · rw [hget b hblk,ae,if_pos rfl,hw];rfl
 · intro i r hr
   have hr:((lO l).map (RT.pv [.i .i64]))[i]? =some r:=hr;rw [ag,Option.map_eq_some_iff] at hr;obtain ⟨a,ha,rfl⟩:=hr;have hi:i<(lO l).length:=(ac.1 ha).1;refine ⟨rfl,fun j c hc=>?_⟩
   cases j with
   |succ j=>cases hc
   |zero=>
    injection hc with hc;subst hc;refine ⟨_,rfl,?_⟩;show (Sort.putCells _ _ _ _)[off+i*1+0]? =_;rw [show off+i*1+0=off+i by omega]
    unfold Sort.putCells;rw [af,Array.getElem?_eq_getElem (by omega),ah,if_pos ⟨by omega,by simp;omega⟩,show off+i-off=i by omega]
    have:((lO l).toArray)[i]! =a:=by
     rw [getElem!_pos _ i (by simpa using hi)]
     have:=(ac.1 ha).2
     simpa using this
    rw [this]
 · intro j hj
   have hj:off+l.length<=j:=by omega
   unfold Sort.putCells;rw [af];cases arr[j]? with
   |none=>rfl
   |some x=>
    rw [ah,if_neg];intro h
    have:=h.2
    simp [hml] at this;omega
 · rw [hget k hk,ae,if_neg (fun h=>hne h.symm)]
 show _<=(_++os).size
 rw [Array.size_append,hp,hsz];omega
theorem uO.int {P:Program} {f:FuncId}
 (H1: ∀(blk off cap:Nat) (zs:List Int) (w:World),Sort.Holds (Value.int .i64) w blk off zs.toArray->blk<w.heap.size->zs.length<4611686018427387904->
  Calls P f #[.slice (some ⟨blk,off,none⟩) zs.length cap] w fun e w'=>e= .returned (.tuple #[])/\ ∃n os,w'=Sort.grow (Sort.putRow (Value.int .i64) (Sort.ahead w n) blk off (zs.mergeSort fun x y=>decide (x<=y)).toArray) os)
 (H0: ∀(p:Option Addr) (cap:Nat) (w:World),Calls P f #[.slice p 0 cap] w fun e w'=>e= .returned (.tuple #[])/\w'=w):uO P f R2 where
 none_ a c w:=H0 a c w
 some_ b off c l m arr el w _ _ hmost hfn _ hw hat hfit:=by
  obtain rfl:lO l=m:=by injection hfn
  exact SO H1 b off c l arr el w hmost hw hat hfit
end Go.Vm
