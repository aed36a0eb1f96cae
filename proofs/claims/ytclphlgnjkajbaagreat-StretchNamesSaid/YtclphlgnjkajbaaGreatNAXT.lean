/- The table of the seat's functions. Printed by a program. -/
import Derived.Test.YtclphlgnjkajbaaGreatNAX1
import Derived.Test.YtclphlgnjkajbaaGreatNAX2
import Derived.Test.YtclphlgnjkajbaaGreatNAX3
import Derived.Test.YtclphlgnjkajbaaGreatNAIN
import Derived.Test.YtclphlgnjkajbaaGreatNAIO
import Derived.Test.YtclphlgnjkajbaaGreatNAIC
import Derived.Test.YtclphlgnjkajbaaGreatChecked
set_option maxRecDepth 100000
namespace Go.Proofs.YtclphlgnjkajbaaGreat
open Go.Vm
theorem iV:Go.Proofs.Tryz.prog.follows .mixedOrders=true:=Go.Proofs.Tryz.checked.mixed
theorem aPW:pF Go.Proofs.Tryz.prog 34 (.prim false (dM 1)):=⟨rfl,kB iV (zero:=[.int .i64 0]) (by decide+kernel)⟩
theorem aPX:pF Go.Proofs.Tryz.prog 78 (.prim false (dM 3)):=⟨rfl,kB iV (zero:=[.int .i64 0,.int .i64 0,.int .i64 0]) (by decide+kernel)⟩
theorem aPY:pF Go.Proofs.Tryz.prog 84 (.shp (MD R2)):=aPU
theorem aPZ:pF Go.Proofs.Tryz.prog 91 (.shp (LU 3)):=aPS
theorem aFg:pF Go.Proofs.Tryz.prog 179 (.shp LS):=aPV
theorem aFh:pF Go.Proofs.Tryz.prog 253 (.prim false (dM 3)):=⟨rfl,kB iV (zero:=[.int .i64 0,.int .i64 0,.int .i64 0]) (by decide+kernel)⟩
theorem aFi:pF Go.Proofs.Tryz.prog 254 (.prim false (dM 3)):=⟨rfl,kB iV (zero:=[.int .i64 0,.int .i64 0,.int .i64 0]) (by decide+kernel)⟩
theorem aFj:pF Go.Proofs.Tryz.prog 255 (.prim false (dM 5)):=⟨rfl,kB iV (zero:=[.int .i64 0,.int .i64 0,.int .i64 0,.int .i64 0,.int .i64 0]) (by decide+kernel)⟩
theorem aFk:pF Go.Proofs.Tryz.prog 256 (.prim false (dM 1)):=⟨rfl,kB iV (zero:=[.bool false]) (by decide+kernel)⟩
theorem aFl:pF Go.Proofs.Tryz.prog 412 (.prim false yG):=⟨rfl,RN Go.Proofs.Tryz.func412 (by kernel_rfl) (by kernel_rfl) (by kernel_rfl) (by kernel_rfl)⟩
theorem aFm:pF Go.Proofs.Tryz.prog 418 (.prim false (dM 1)):=⟨rfl,kB iV (zero:=[.int .i64 0]) (by decide+kernel)⟩
noncomputable def aSs:TT:= .node 219 (.node 115 (.node 63 (.node 35 (.node 22 (.node 12 (.node 9 (.node 8 (.leaf 5 (.code x5)) (.leaf 8 (.code x8))) (.node 11 (.leaf 9 (.code x9)) (.leaf 11 (.code x11)))) (.node 18 (.node 13 (.leaf 12 (.code x12)) (.leaf 13 (.code x13))) (.node 20 (.leaf 18 (.code x18)) (.node 21 (.leaf 20 (.code x20)) (.leaf 21 (.code x21)))))) (.node 28 (.node 24 (.node 23 (.leaf 22 (.code x22)) (.leaf 23 (.code x23))) (.node 26 (.leaf 24 (.code x24)) (.node 27 (.leaf 26 (.code x26)) (.leaf 27 (.code x27))))) (.node 32 (.node 30 (.leaf 28 (.code x28)) (.leaf 30 (.code x30))) (.node 33 (.leaf 32 (.code x32)) (.node 34 (.leaf 33 (.code x33)) (.leaf 34 (.prim false (dM 1)))))))) (.node 52 (.node 39 (.node 37 (.node 36 (.leaf 35 (.code x35)) (.leaf 36 (.code x36))) (.node 38 (.leaf 37 (.code x37)) (.leaf 38 (.code x38)))) (.node 49 (.node 40 (.leaf 39 (.code x39)) (.leaf 40 (.code x40))) (.node 50 (.leaf 49 (.code x49)) (.node 51 (.leaf 50 (.code x50)) (.leaf 51 (.code x51)))))) (.node 58 (.node 55 (.node 54 (.leaf 52 (.code x52)) (.leaf 54 (.code x54))) (.node 56 (.leaf 55 (.code x55)) (.node 57 (.leaf 56 (.code x56)) (.leaf 57 (.code x57))))) (.node 60 (.node 59 (.leaf 58 (.code x58)) (.leaf 59 (.code x59))) (.node 61 (.leaf 60 (.code x60)) (.node 62 (.leaf 61 (.code x61)) (.leaf 62 (.code x62)))))))) (.node 87 (.node 76 (.node 71 (.node 69 (.node 64 (.leaf 63 (.code x63)) (.leaf 64 (.code x64))) (.node 70 (.leaf 69 (.code x69)) (.leaf 70 (.code x70)))) (.node 73 (.node 72 (.leaf 71 (.code x71)) (.leaf 72 (.code x72))) (.node 74 (.leaf 73 (.code x73)) (.node 75 (.leaf 74 (.code x74)) (.leaf 75 (.code x75)))))) (.node 82 (.node 79 (.node 78 (.leaf 76 (.code x76)) (.leaf 78 (.prim false (dM 3)))) (.node 80 (.leaf 79 (.code x79)) (.node 81 (.leaf 80 (.code x80)) (.leaf 81 (.code x81))))) (.node 84 (.node 83 (.leaf 82 (.code x82)) (.leaf 83 (.code x83))) (.node 85 (.leaf 84 (.shp (MD R2))) (.node 86 (.leaf 85 (.code x85)) (.leaf 86 (.code x86))))))) (.node 96 (.node 91 (.node 89 (.node 88 (.leaf 87 (.code x87)) (.leaf 88 (.code x88))) (.node 90 (.leaf 89 (.code x89)) (.leaf 90 (.code x90)))) (.node 93 (.node 92 (.leaf 91 (.shp (LU 3))) (.leaf 92 (.code x92))) (.node 94 (.leaf 93 (.code x93)) (.node 95 (.leaf 94 (.code x94)) (.leaf 95 (.code x95)))))) (.node 106 (.node 101 (.node 97 (.leaf 96 (.code x96)) (.leaf 97 (.code x97))) (.node 104 (.leaf 101 (.code aMA)) (.node 105 (.leaf 104 (.code aMB)) (.leaf 105 (.code aMC))))) (.node 112 (.node 107 (.leaf 106 (.code aMD)) (.leaf 107 (.code aME))) (.node 113 (.leaf 112 (.code aMF)) (.node 114 (.leaf 113 (.code aMG)) (.leaf 114 (.code aMH))))))))) (.node 161 (.node 141 (.node 126 (.node 119 (.node 117 (.node 116 (.leaf 115 (.code aMI)) (.leaf 116 (.code aMJ))) (.node 118 (.leaf 117 (.code aMK)) (.leaf 118 (.code aML)))) (.node 121 (.node 120 (.leaf 119 (.code aMM)) (.leaf 120 (.code aMN))) (.node 122 (.leaf 121 (.code aMO)) (.node 124 (.leaf 122 (.code aMP)) (.leaf 124 (.code aMQ)))))) (.node 136 (.node 133 (.node 132 (.leaf 126 (.code aMR)) (.leaf 132 (.code aMS))) (.node 134 (.leaf 133 (.code aMT)) (.node 135 (.leaf 134 (.code aMU)) (.leaf 135 (.code aMV))))) (.node 138 (.node 137 (.leaf 136 (.code aMW)) (.leaf 137 (.code aMX))) (.node 139 (.leaf 138 (.code aMY)) (.node 140 (.leaf 139 (.code aMZ)) (.leaf 140 (.code aM0))))))) (.node 150 (.node 145 (.node 143 (.node 142 (.leaf 141 (.code aM1)) (.leaf 142 (.code aM2))) (.node 144 (.leaf 143 (.code aM3)) (.leaf 144 (.code aM4)))) (.node 147 (.node 146 (.leaf 145 (.code aM5)) (.leaf 146 (.code aM6))) (.node 148 (.leaf 147 (.code aM7)) (.node 149 (.leaf 148 (.code aM8)) (.leaf 149 (.code aM9)))))) (.node 156 (.node 153 (.node 152 (.leaf 150 (.code aNa)) (.leaf 152 (.code aBV))) (.node 154 (.leaf 153 (.code aNb)) (.node 155 (.leaf 154 (.code aNc)) (.leaf 155 (.code aNd))))) (.node 158 (.node 157 (.leaf 156 (.code aNe)) (.leaf 157 (.code aNf))) (.node 159 (.leaf 158 (.code aNg)) (.node 160 (.leaf 159 (.code aNh)) (.leaf 160 (.code ZO)))))))) (.node 186 (.node 174 (.node 167 (.node 163 (.node 162 (.leaf 161 (.code WW)) (.leaf 162 (.code aNi))) (.node 166 (.leaf 163 (.code aNj)) (.leaf 166 (.code aB8)))) (.node 169 (.node 168 (.leaf 167 (.code aNk)) (.leaf 168 (.code aNl))) (.node 170 (.leaf 169 (.code aNm)) (.node 171 (.leaf 170 (.code aNn)) (.leaf 171 (.code aNo)))))) (.node 179 (.node 176 (.node 175 (.leaf 174 (.code aNp)) (.leaf 175 (.code aNq))) (.node 177 (.leaf 176 (.code aNr)) (.node 178 (.leaf 177 (.code aNs)) (.leaf 178 (.code aNt))))) (.node 183 (.node 182 (.leaf 179 (.shp LS)) (.leaf 182 (.code aNu))) (.node 184 (.leaf 183 (.code aNv)) (.node 185 (.leaf 184 (.code aNw)) (.leaf 185 (.code aNx))))))) (.node 195 (.node 190 (.node 188 (.node 187 (.leaf 186 (.code aNy)) (.leaf 187 (.code aNz))) (.node 189 (.leaf 188 (.code aNA)) (.leaf 189 (.code aNB)))) (.node 192 (.node 191 (.leaf 190 (.code aNC)) (.leaf 191 (.code aND))) (.node 193 (.leaf 192 (.code aNE)) (.node 194 (.leaf 193 (.code aNF)) (.leaf 194 (.code aNG)))))) (.node 214 (.node 211 (.node 210 (.leaf 195 (.code aNH)) (.leaf 210 (.code aNI))) (.node 212 (.leaf 211 (.code aNJ)) (.node 213 (.leaf 212 (.code aNK)) (.leaf 213 (.code aNL))))) (.node 216 (.node 215 (.leaf 214 (.code aNM)) (.leaf 215 (.code aNN))) (.node 217 (.leaf 216 (.code aNO)) (.node 218 (.leaf 217 (.code aNP)) (.leaf 218 (.code aNQ)))))))))) (.node 330 (.node 262 (.node 243 (.node 233 (.node 228 (.node 223 (.node 220 (.leaf 219 (.code aNR)) (.leaf 220 (.code aNS))) (.node 225 (.leaf 223 (.code aNT)) (.leaf 225 (.code aNU)))) (.node 230 (.node 229 (.leaf 228 (.code aNV)) (.leaf 229 (.code aNW))) (.node 231 (.leaf 230 (.code aNX)) (.node 232 (.leaf 231 (.code aNY)) (.leaf 232 (.code aNZ)))))) (.node 238 (.node 235 (.node 234 (.leaf 233 (.code aN0)) (.leaf 234 (.code aN1))) (.node 236 (.leaf 235 (.code aN2)) (.node 237 (.leaf 236 (.code aN3)) (.leaf 237 (.code aN4))))) (.node 240 (.node 239 (.leaf 238 (.code aN5)) (.leaf 239 (.code aN6))) (.node 241 (.leaf 240 (.code aN7)) (.node 242 (.leaf 241 (.code aN8)) (.leaf 242 (.code aN9))))))) (.node 252 (.node 247 (.node 245 (.node 244 (.leaf 243 (.code aOa)) (.leaf 244 (.code aOb))) (.node 246 (.leaf 245 (.code aOc)) (.leaf 246 (.code aOd)))) (.node 249 (.node 248 (.leaf 247 (.code aOe)) (.leaf 248 (.code aOf))) (.node 250 (.leaf 249 (.code aOg)) (.node 251 (.leaf 250 (.code aOh)) (.leaf 251 (.code aC8)))))) (.node 257 (.node 254 (.node 253 (.leaf 252 (.code aOi)) (.leaf 253 (.prim false (dM 3)))) (.node 255 (.leaf 254 (.prim false (dM 3))) (.node 256 (.leaf 255 (.prim false (dM 5))) (.leaf 256 (.prim false (dM 1)))))) (.node 259 (.node 258 (.leaf 257 (.code aOj)) (.leaf 258 (.code aOk))) (.node 260 (.leaf 259 (.code aOl)) (.node 261 (.leaf 260 (.code aOm)) (.leaf 261 (.code aOn)))))))) (.node 295 (.node 285 (.node 277 (.node 264 (.node 263 (.leaf 262 (.code ZP)) (.leaf 263 (.code SP))) (.node 276 (.leaf 264 (.code WX)) (.leaf 276 (.code aOo)))) (.node 280 (.node 279 (.leaf 277 (.code aOp)) (.leaf 279 (.code aDl))) (.node 281 (.leaf 280 (.code aOq)) (.node 284 (.leaf 281 (.code aOr)) (.leaf 284 (.code aOs)))))) (.node 290 (.node 287 (.node 286 (.leaf 285 (.code WY)) (.leaf 286 (.code aOt))) (.node 288 (.leaf 287 (.code aOu)) (.node 289 (.leaf 288 (.code aDt)) (.leaf 289 (.code aOv))))) (.node 292 (.node 291 (.leaf 290 (.code aDw)) (.leaf 291 (.code aDy))) (.node 293 (.leaf 292 (.code aDA)) (.node 294 (.leaf 293 (.code aOw)) (.leaf 294 (.code aDD))))))) (.node 317 (.node 312 (.node 310 (.node 309 (.leaf 295 (.code aDF)) (.leaf 309 (.code aOx))) (.node 311 (.leaf 310 (.code aOy)) (.leaf 311 (.code aOz)))) (.node 314 (.node 313 (.leaf 312 (.code aOA)) (.leaf 313 (.code aOB))) (.node 315 (.leaf 314 (.code aOC)) (.node 316 (.leaf 315 (.code aOD)) (.leaf 316 (.code aOE)))))) (.node 325 (.node 321 (.node 318 (.leaf 317 (.code aOF)) (.leaf 318 (.code aOG))) (.node 322 (.leaf 321 (.code aOH)) (.node 324 (.leaf 322 (.code aOI)) (.leaf 324 (.code aOJ))))) (.node 327 (.node 326 (.leaf 325 (.code aOK)) (.leaf 326 (.code aOL))) (.node 328 (.leaf 327 (.code aDW)) (.node 329 (.leaf 328 (.code aOM)) (.leaf 329 (.code aON))))))))) (.node 379 (.node 355 (.node 339 (.node 334 (.node 332 (.node 331 (.leaf 330 (.code aOO)) (.leaf 331 (.code aOP))) (.node 333 (.leaf 332 (.code aOQ)) (.leaf 333 (.code aOR)))) (.node 336 (.node 335 (.leaf 334 (.code aOS)) (.leaf 335 (.code aOT))) (.node 337 (.leaf 336 (.code aOU)) (.node 338 (.leaf 337 (.code aOV)) (.leaf 338 (.code aOW)))))) (.node 344 (.node 341 (.node 340 (.leaf 339 (.code aOX)) (.leaf 340 (.code aEa))) (.node 342 (.leaf 341 (.code aOY)) (.node 343 (.leaf 342 (.code aOZ)) (.leaf 343 (.code aO0))))) (.node 346 (.node 345 (.leaf 344 (.code aO1)) (.leaf 345 (.code aO2))) (.node 353 (.leaf 346 (.code aO3)) (.node 354 (.leaf 353 (.code aO4)) (.leaf 354 (.code WZ))))))) (.node 369 (.node 361 (.node 357 (.node 356 (.leaf 355 (.code W0)) (.leaf 356 (.code W3))) (.node 358 (.leaf 357 (.code aO5)) (.leaf 358 (.code aO6)))) (.node 366 (.node 365 (.leaf 361 (.code aO7)) (.leaf 365 (.code aO8))) (.node 367 (.leaf 366 (.code aO9)) (.node 368 (.leaf 367 (.code aPa)) (.leaf 368 (.code aPb)))))) (.node 374 (.node 371 (.node 370 (.leaf 369 (.code aPc)) (.leaf 370 (.code aPd))) (.node 372 (.leaf 371 (.code aPe)) (.node 373 (.leaf 372 (.code aPf)) (.leaf 373 (.code aPg))))) (.node 376 (.node 375 (.leaf 374 (.code aPh)) (.leaf 375 (.code aPi))) (.node 377 (.leaf 376 (.code aPj)) (.node 378 (.leaf 377 (.code aPk)) (.leaf 378 (.code aPl)))))))) (.node 400 (.node 388 (.node 383 (.node 381 (.node 380 (.leaf 379 (.code aPm)) (.leaf 380 (.code aPn))) (.node 382 (.leaf 381 (.code aPo)) (.leaf 382 (.code aPp)))) (.node 385 (.node 384 (.leaf 383 (.code W4)) (.leaf 384 (.code aPq))) (.node 386 (.leaf 385 (.code aPr)) (.node 387 (.leaf 386 (.code aEK)) (.leaf 387 (.code aPs)))))) (.node 394 (.node 390 (.node 389 (.leaf 388 (.code aEN)) (.leaf 389 (.code aPt))) (.node 391 (.leaf 390 (.code aPu)) (.node 393 (.leaf 391 (.code aPv)) (.leaf 393 (.code aPw))))) (.node 397 (.node 395 (.leaf 394 (.code aPx)) (.leaf 395 (.code aPy))) (.node 398 (.leaf 397 (.code aPz)) (.node 399 (.leaf 398 (.code aPA)) (.leaf 399 (.code aPB))))))) (.node 409 (.node 404 (.node 402 (.node 401 (.leaf 400 (.code aPC)) (.leaf 401 (.code aPD))) (.node 403 (.leaf 402 (.code aPE)) (.leaf 403 (.code aPF)))) (.node 406 (.node 405 (.leaf 404 (.code aPG)) (.leaf 405 (.code aPH))) (.node 407 (.leaf 406 (.code aPI)) (.node 408 (.leaf 407 (.code aPJ)) (.leaf 408 (.code aPK)))))) (.node 414 (.node 411 (.node 410 (.leaf 409 (.code aPL)) (.leaf 410 (.code aPM))) (.node 412 (.leaf 411 (.code ZQ)) (.node 413 (.leaf 412 (.prim false yG)) (.leaf 413 (.code aPN))))) (.node 416 (.node 415 (.leaf 414 (.code aPO)) (.leaf 415 (.code aPP))) (.node 417 (.leaf 416 (.code aPQ)) (.node 418 (.leaf 417 (.code aPR)) (.leaf 418 (.prim false (dM 1)))))))))))
theorem TZ:aSs.All (pF Go.Proofs.Tryz.prog):=⟨⟨⟨⟨⟨⟨⟨⟨aSo,aSp⟩,⟨aSq,aLB⟩⟩,⟨⟨aLC,aLD⟩,⟨aLE,⟨aLF,aLG⟩⟩⟩⟩,⟨⟨⟨aLH,aLI⟩,⟨aLJ,⟨aLK,aLL⟩⟩⟩,⟨⟨aLM,aLN⟩,⟨aLO,⟨aLP,aPW⟩⟩⟩⟩⟩,⟨⟨⟨⟨aLQ,aLR⟩,⟨aLS,aLT⟩⟩,⟨⟨aLU,aLV⟩,⟨aLW,⟨aLX,aLY⟩⟩⟩⟩,⟨⟨⟨aLZ,aL0⟩,⟨aL1,⟨aL2,aL3⟩⟩⟩,⟨⟨aL4,aL5⟩,⟨aL6,⟨aL7,aL8⟩⟩⟩⟩⟩⟩,⟨⟨⟨⟨⟨aL9,aMa⟩,⟨aMb,aMc⟩⟩,⟨⟨aMd,aMe⟩,⟨aMf,⟨aMg,aMh⟩⟩⟩⟩,⟨⟨⟨aMi,aPX⟩,⟨aMj,⟨aMk,aMl⟩⟩⟩,⟨⟨aMm,aMn⟩,⟨aPY,⟨aMo,aMp⟩⟩⟩⟩⟩,⟨⟨⟨⟨aMq,aMr⟩,⟨aMs,aMt⟩⟩,⟨⟨aPZ,aMu⟩,⟨aMv,⟨aMw,aMx⟩⟩⟩⟩,⟨⟨⟨aMy,aMz⟩,⟨aBk,⟨aBl,aBm⟩⟩⟩,⟨⟨aBn,aBo⟩,⟨aBp,⟨aBq,aBr⟩⟩⟩⟩⟩⟩⟩,⟨⟨⟨⟨⟨⟨aBs,aBt⟩,⟨aBu,aBv⟩⟩,⟨⟨aBw,aBx⟩,⟨aBy,⟨aBz,aBA⟩⟩⟩⟩,⟨⟨⟨aBB,aBC⟩,⟨aBD,⟨aBE,aBF⟩⟩⟩,⟨⟨aBG,aBH⟩,⟨aBI,⟨aBJ,aBK⟩⟩⟩⟩⟩,⟨⟨⟨⟨aBL,aBM⟩,⟨aBN,aBO⟩⟩,⟨⟨aBP,aBQ⟩,⟨aBR,⟨aBS,aBT⟩⟩⟩⟩,⟨⟨⟨aBU,aBW⟩,⟨aBX,⟨aBY,aBZ⟩⟩⟩,⟨⟨aB0,aB1⟩,⟨aB2,⟨aB3,aB4⟩⟩⟩⟩⟩⟩,⟨⟨⟨⟨⟨aB5,aB6⟩,⟨aB7,aB9⟩⟩,⟨⟨aCa,aCb⟩,⟨aCc,⟨aCd,aCe⟩⟩⟩⟩,⟨⟨⟨aCf,aCg⟩,⟨aCh,⟨aCi,aCj⟩⟩⟩,⟨⟨aFg,aCk⟩,⟨aCl,⟨aCm,aCn⟩⟩⟩⟩⟩,⟨⟨⟨⟨aCo,aCp⟩,⟨aCq,aCr⟩⟩,⟨⟨aCs,aCt⟩,⟨aCu,⟨aCv,aCw⟩⟩⟩⟩,⟨⟨⟨aCx,aCy⟩,⟨aCz,⟨aCA,aCB⟩⟩⟩,⟨⟨aCC,aCD⟩,⟨aCE,⟨aCF,aCG⟩⟩⟩⟩⟩⟩⟩⟩,⟨⟨⟨⟨⟨⟨⟨aCH,aCI⟩,⟨aCJ,aCK⟩⟩,⟨⟨aCL,aCM⟩,⟨aCN,⟨aCO,aCP⟩⟩⟩⟩,⟨⟨⟨aCQ,aCR⟩,⟨aCS,⟨aCT,aCU⟩⟩⟩,⟨⟨aCV,aCW⟩,⟨aCX,⟨aCY,aCZ⟩⟩⟩⟩⟩,⟨⟨⟨⟨aC0,aC1⟩,⟨aC2,aC3⟩⟩,⟨⟨aC4,aC5⟩,⟨aC6,⟨aC7,aC9⟩⟩⟩⟩,⟨⟨⟨aDa,aFh⟩,⟨aFi,⟨aFj,aFk⟩⟩⟩,⟨⟨aDb,aDc⟩,⟨aDd,⟨aDe,aDf⟩⟩⟩⟩⟩⟩,⟨⟨⟨⟨⟨aDg,aDh⟩,⟨aDi,aDj⟩⟩,⟨⟨aDk,aDm⟩,⟨aDn,⟨aDo,aDp⟩⟩⟩⟩,⟨⟨⟨aDq,aDr⟩,⟨aDs,⟨aDu,aDv⟩⟩⟩,⟨⟨aDx,aDz⟩,⟨aDB,⟨aDC,aDE⟩⟩⟩⟩⟩,⟨⟨⟨⟨aDG,aDH⟩,⟨aDI,aDJ⟩⟩,⟨⟨aDK,aDL⟩,⟨aDM,⟨aDN,aDO⟩⟩⟩⟩,⟨⟨⟨aDP,aDQ⟩,⟨aDR,⟨aDS,aDT⟩⟩⟩,⟨⟨aDU,aDV⟩,⟨aDX,⟨aDY,aDZ⟩⟩⟩⟩⟩⟩⟩,⟨⟨⟨⟨⟨⟨aD0,aD1⟩,⟨aD2,aD3⟩⟩,⟨⟨aD4,aD5⟩,⟨aD6,⟨aD7,aD8⟩⟩⟩⟩,⟨⟨⟨aD9,aEb⟩,⟨aEc,⟨aEd,aEe⟩⟩⟩,⟨⟨aEf,aEg⟩,⟨aEh,⟨aEi,aEj⟩⟩⟩⟩⟩,⟨⟨⟨⟨aEk,aEl⟩,⟨aEm,aEn⟩⟩,⟨⟨aEo,aEp⟩,⟨aEq,⟨aEr,aEs⟩⟩⟩⟩,⟨⟨⟨aEt,aEu⟩,⟨aEv,⟨aEw,aEx⟩⟩⟩,⟨⟨aEy,aEz⟩,⟨aEA,⟨aEB,aEC⟩⟩⟩⟩⟩⟩,⟨⟨⟨⟨⟨aED,aEE⟩,⟨aEF,aEG⟩⟩,⟨⟨aEH,aEI⟩,⟨aEJ,⟨aEL,aEM⟩⟩⟩⟩,⟨⟨⟨aEO,aEP⟩,⟨aEQ,⟨aER,aES⟩⟩⟩,⟨⟨aET,aEU⟩,⟨aEV,⟨aEW,aEX⟩⟩⟩⟩⟩,⟨⟨⟨⟨aEY,aEZ⟩,⟨aE0,aE1⟩⟩,⟨⟨aE2,aE3⟩,⟨aE4,⟨aE5,aE6⟩⟩⟩⟩,⟨⟨⟨aE7,aE8⟩,⟨aE9,⟨aFl,aFa⟩⟩⟩,⟨⟨aFb,aFc⟩,⟨aFd,⟨aFe,aFm⟩⟩⟩⟩⟩⟩⟩⟩⟩
noncomputable def tab:kI:=aSs.get
theorem aK9:tab 5=some (.code x5):=rfl
theorem aSt:tab 8=some (.code x8):=rfl
theorem aSu:tab 9=some (.code x9):=rfl
theorem aP0:tab 11=some (.code x11):=rfl
theorem aP1:tab 12=some (.code x12):=rfl
theorem aP2:tab 13=some (.code x13):=rfl
theorem aP3:tab 18=some (.code x18):=rfl
theorem aP4:tab 20=some (.code x20):=rfl
theorem aP5:tab 21=some (.code x21):=rfl
theorem aP6:tab 22=some (.code x22):=rfl
theorem aP7:tab 23=some (.code x23):=rfl
theorem aP8:tab 24=some (.code x24):=rfl
theorem aP9:tab 26=some (.code x26):=rfl
theorem ZW:tab 27=some (.code x27):=rfl
theorem aQa:tab 28=some (.code x28):=rfl
theorem aQb:tab 30=some (.code x30):=rfl
theorem aQc:tab 32=some (.code x32):=rfl
theorem aQd:tab 33=some (.code x33):=rfl
theorem aQe:tab 34=some (.prim false (dM 1)):=rfl
theorem aQf:tab 35=some (.code x35):=rfl
theorem ZX:tab 36=some (.code x36):=rfl
theorem aQg:tab 37=some (.code x37):=rfl
theorem aQh:tab 38=some (.code x38):=rfl
theorem ZY:tab 39=some (.code x39):=rfl
theorem aQi:tab 40=some (.code x40):=rfl
theorem aQj:tab 49=some (.code x49):=rfl
theorem aQk:tab 50=some (.code x50):=rfl
theorem aQl:tab 51=some (.code x51):=rfl
theorem aQm:tab 52=some (.code x52):=rfl
theorem aQn:tab 54=some (.code x54):=rfl
theorem aQo:tab 55=some (.code x55):=rfl
theorem aQp:tab 56=some (.code x56):=rfl
theorem aQq:tab 57=some (.code x57):=rfl
theorem aQr:tab 58=some (.code x58):=rfl
theorem aQs:tab 59=some (.code x59):=rfl
theorem aQt:tab 60=some (.code x60):=rfl
theorem aQu:tab 61=some (.code x61):=rfl
theorem aQv:tab 62=some (.code x62):=rfl
theorem aQw:tab 63=some (.code x63):=rfl
theorem aQx:tab 64=some (.code x64):=rfl
theorem aQy:tab 69=some (.code x69):=rfl
theorem aQz:tab 70=some (.code x70):=rfl
theorem aQA:tab 71=some (.code x71):=rfl
theorem aQB:tab 72=some (.code x72):=rfl
theorem aQC:tab 73=some (.code x73):=rfl
theorem aQD:tab 74=some (.code x74):=rfl
theorem aQE:tab 75=some (.code x75):=rfl
theorem aQF:tab 76=some (.code x76):=rfl
theorem aQG:tab 78=some (.prim false (dM 3)):=rfl
theorem aQH:tab 79=some (.code x79):=rfl
theorem aQI:tab 80=some (.code x80):=rfl
theorem aQJ:tab 81=some (.code x81):=rfl
theorem aQK:tab 82=some (.code x82):=rfl
theorem aQL:tab 83=some (.code x83):=rfl
theorem aQM:tab 84=some (.shp (MD R2)):=rfl
theorem aQN:tab 85=some (.code x85):=rfl
theorem aQO:tab 86=some (.code x86):=rfl
theorem aQP:tab 87=some (.code x87):=rfl
theorem aQQ:tab 88=some (.code x88):=rfl
theorem aQR:tab 89=some (.code x89):=rfl
theorem aQS:tab 90=some (.code x90):=rfl
theorem aQT:tab 91=some (.shp (LU 3)):=rfl
theorem aQU:tab 92=some (.code x92):=rfl
theorem aQV:tab 93=some (.code x93):=rfl
theorem aQW:tab 94=some (.code x94):=rfl
theorem aQX:tab 95=some (.code x95):=rfl
theorem aQY:tab 96=some (.code x96):=rfl
theorem CP:tab 97=some (.code x97):=rfl
theorem T0:tab 101=some (.code aMA):=rfl
theorem aFn:tab 104=some (.code aMB):=rfl
theorem aFo:tab 105=some (.code aMC):=rfl
theorem aFp:tab 106=some (.code aMD):=rfl
theorem aFq:tab 107=some (.code aME):=rfl
theorem aFr:tab 112=some (.code aMF):=rfl
theorem aFs:tab 113=some (.code aMG):=rfl
theorem aFt:tab 114=some (.code aMH):=rfl
theorem aFu:tab 115=some (.code aMI):=rfl
theorem aFv:tab 116=some (.code aMJ):=rfl
theorem aFw:tab 117=some (.code aMK):=rfl
theorem aFx:tab 118=some (.code aML):=rfl
theorem aFy:tab 119=some (.code aMM):=rfl
theorem aFz:tab 120=some (.code aMN):=rfl
theorem aFA:tab 121=some (.code aMO):=rfl
theorem aFB:tab 122=some (.code aMP):=rfl
theorem aFC:tab 124=some (.code aMQ):=rfl
theorem T1:tab 126=some (.code aMR):=rfl
theorem aFD:tab 132=some (.code aMS):=rfl
theorem aFE:tab 133=some (.code aMT):=rfl
theorem aFF:tab 134=some (.code aMU):=rfl
theorem aFG:tab 135=some (.code aMV):=rfl
theorem aFH:tab 136=some (.code aMW):=rfl
theorem aFI:tab 137=some (.code aMX):=rfl
theorem aFJ:tab 138=some (.code aMY):=rfl
theorem aFK:tab 139=some (.code aMZ):=rfl
theorem aFL:tab 140=some (.code aM0):=rfl
theorem aFM:tab 141=some (.code aM1):=rfl
theorem aFN:tab 142=some (.code aM2):=rfl
theorem aFO:tab 143=some (.code aM3):=rfl
theorem aFP:tab 144=some (.code aM4):=rfl
theorem aFQ:tab 145=some (.code aM5):=rfl
theorem aFR:tab 146=some (.code aM6):=rfl
theorem aFS:tab 147=some (.code aM7):=rfl
theorem aFT:tab 148=some (.code aM8):=rfl
theorem aFU:tab 149=some (.code aM9):=rfl
theorem aFV:tab 150=some (.code aNa):=rfl
theorem T2:tab 152=some (.code aBV):=rfl
theorem aFW:tab 153=some (.code aNb):=rfl
theorem aFX:tab 154=some (.code aNc):=rfl
theorem aFY:tab 155=some (.code aNd):=rfl
theorem T3:tab 156=some (.code aNe):=rfl
theorem aFZ:tab 157=some (.code aNf):=rfl
theorem aF0:tab 158=some (.code aNg):=rfl
theorem aF1:tab 159=some (.code aNh):=rfl
theorem T4:tab 160=some (.code ZO):=rfl
theorem MP:tab 161=some (.code WW):=rfl
theorem aF2:tab 162=some (.code aNi):=rfl
theorem aF3:tab 163=some (.code aNj):=rfl
theorem T5:tab 166=some (.code aB8):=rfl
theorem E3:tab 167=some (.code aNk):=rfl
theorem aF4:tab 168=some (.code aNl):=rfl
theorem MQ:tab 169=some (.code aNm):=rfl
theorem aF5:tab 170=some (.code aNn):=rfl
theorem aF6:tab 171=some (.code aNo):=rfl
theorem aF7:tab 174=some (.code aNp):=rfl
theorem aF8:tab 175=some (.code aNq):=rfl
theorem aF9:tab 176=some (.code aNr):=rfl
theorem aGa:tab 177=some (.code aNs):=rfl
theorem aGb:tab 178=some (.code aNt):=rfl
theorem aGc:tab 179=some (.shp LS):=rfl
theorem T6:tab 182=some (.code aNu):=rfl
theorem T7:tab 183=some (.code aNv):=rfl
theorem T8:tab 184=some (.code aNw):=rfl
theorem aGd:tab 185=some (.code aNx):=rfl
theorem aGe:tab 186=some (.code aNy):=rfl
theorem aGf:tab 187=some (.code aNz):=rfl
theorem aGg:tab 188=some (.code aNA):=rfl
theorem aGh:tab 189=some (.code aNB):=rfl
theorem aGi:tab 190=some (.code aNC):=rfl
theorem aGj:tab 191=some (.code aND):=rfl
theorem aGk:tab 192=some (.code aNE):=rfl
theorem aGl:tab 193=some (.code aNF):=rfl
theorem aGm:tab 194=some (.code aNG):=rfl
theorem aGn:tab 195=some (.code aNH):=rfl
theorem aGo:tab 210=some (.code aNI):=rfl
theorem aGp:tab 211=some (.code aNJ):=rfl
theorem aGq:tab 212=some (.code aNK):=rfl
theorem aGr:tab 213=some (.code aNL):=rfl
theorem aGs:tab 214=some (.code aNM):=rfl
theorem aGt:tab 215=some (.code aNN):=rfl
theorem T9:tab 216=some (.code aNO):=rfl
theorem aGu:tab 217=some (.code aNP):=rfl
theorem aGv:tab 218=some (.code aNQ):=rfl
theorem aGw:tab 219=some (.code aNR):=rfl
theorem aGx:tab 220=some (.code aNS):=rfl
theorem aGy:tab 223=some (.code aNT):=rfl
theorem aGz:tab 225=some (.code aNU):=rfl
theorem aGA:tab 228=some (.code aNV):=rfl
theorem aGB:tab 229=some (.code aNW):=rfl
theorem aGC:tab 230=some (.code aNX):=rfl
theorem aGD:tab 231=some (.code aNY):=rfl
theorem aGE:tab 232=some (.code aNZ):=rfl
theorem aGF:tab 233=some (.code aN0):=rfl
theorem aGG:tab 234=some (.code aN1):=rfl
theorem aGH:tab 235=some (.code aN2):=rfl
theorem aGI:tab 236=some (.code aN3):=rfl
theorem aGJ:tab 237=some (.code aN4):=rfl
theorem aGK:tab 238=some (.code aN5):=rfl
theorem aGL:tab 239=some (.code aN6):=rfl
theorem aGM:tab 240=some (.code aN7):=rfl
theorem aGN:tab 241=some (.code aN8):=rfl
theorem aGO:tab 242=some (.code aN9):=rfl
theorem UA:tab 243=some (.code aOa):=rfl
theorem aGP:tab 244=some (.code aOb):=rfl
theorem aGQ:tab 245=some (.code aOc):=rfl
theorem UB:tab 246=some (.code aOd):=rfl
theorem aGR:tab 247=some (.code aOe):=rfl
theorem aGS:tab 248=some (.code aOf):=rfl
theorem aGT:tab 249=some (.code aOg):=rfl
theorem aGU:tab 250=some (.code aOh):=rfl
theorem UC:tab 251=some (.code aC8):=rfl
theorem aGV:tab 252=some (.code aOi):=rfl
theorem aGW:tab 253=some (.prim false (dM 3)):=rfl
theorem aGX:tab 254=some (.prim false (dM 3)):=rfl
theorem aGY:tab 255=some (.prim false (dM 5)):=rfl
theorem aGZ:tab 256=some (.prim false (dM 1)):=rfl
theorem aG0:tab 257=some (.code aOj):=rfl
theorem aG1:tab 258=some (.code aOk):=rfl
theorem aG2:tab 259=some (.code aOl):=rfl
theorem aG3:tab 260=some (.code aOm):=rfl
theorem aG4:tab 261=some (.code aOn):=rfl
theorem UD:tab 262=some (.code ZP):=rfl
theorem E4:tab 263=some (.code SP):=rfl
theorem MR:tab 264=some (.code WX):=rfl
theorem E5:tab 276=some (.code aOo):=rfl
theorem aG5:tab 277=some (.code aOp):=rfl
theorem aG6:tab 279=some (.code aDl):=rfl
theorem aG7:tab 280=some (.code aOq):=rfl
theorem aG8:tab 281=some (.code aOr):=rfl
theorem UE:tab 284=some (.code aOs):=rfl
theorem MS:tab 285=some (.code WY):=rfl
theorem aG9:tab 286=some (.code aOt):=rfl
theorem MT:tab 287=some (.code aOu):=rfl
theorem UF:tab 288=some (.code aDt):=rfl
theorem MU:tab 289=some (.code aOv):=rfl
theorem UG:tab 290=some (.code aDw):=rfl
theorem UH:tab 291=some (.code aDy):=rfl
theorem UI:tab 292=some (.code aDA):=rfl
theorem aHa:tab 293=some (.code aOw):=rfl
theorem UJ:tab 294=some (.code aDD):=rfl
theorem UK:tab 295=some (.code aDF):=rfl
theorem aHb:tab 309=some (.code aOx):=rfl
theorem aHc:tab 310=some (.code aOy):=rfl
theorem aHd:tab 311=some (.code aOz):=rfl
theorem aHe:tab 312=some (.code aOA):=rfl
theorem aHf:tab 313=some (.code aOB):=rfl
theorem aHg:tab 314=some (.code aOC):=rfl
theorem aHh:tab 315=some (.code aOD):=rfl
theorem aHi:tab 316=some (.code aOE):=rfl
theorem aHj:tab 317=some (.code aOF):=rfl
theorem aHk:tab 318=some (.code aOG):=rfl
theorem aHl:tab 321=some (.code aOH):=rfl
theorem aHm:tab 322=some (.code aOI):=rfl
theorem aHn:tab 324=some (.code aOJ):=rfl
theorem aHo:tab 325=some (.code aOK):=rfl
theorem aHp:tab 326=some (.code aOL):=rfl
theorem UL:tab 327=some (.code aDW):=rfl
theorem aHq:tab 328=some (.code aOM):=rfl
theorem aHr:tab 329=some (.code aON):=rfl
theorem aHs:tab 330=some (.code aOO):=rfl
theorem aHt:tab 331=some (.code aOP):=rfl
theorem aHu:tab 332=some (.code aOQ):=rfl
theorem aHv:tab 333=some (.code aOR):=rfl
theorem aHw:tab 334=some (.code aOS):=rfl
theorem aHx:tab 335=some (.code aOT):=rfl
theorem aHy:tab 336=some (.code aOU):=rfl
theorem aHz:tab 337=some (.code aOV):=rfl
theorem aHA:tab 338=some (.code aOW):=rfl
theorem aHB:tab 339=some (.code aOX):=rfl
theorem aHC:tab 340=some (.code aEa):=rfl
theorem aHD:tab 341=some (.code aOY):=rfl
theorem aHE:tab 342=some (.code aOZ):=rfl
theorem aHF:tab 343=some (.code aO0):=rfl
theorem aHG:tab 344=some (.code aO1):=rfl
theorem aHH:tab 345=some (.code aO2):=rfl
theorem aHI:tab 346=some (.code aO3):=rfl
theorem aHJ:tab 353=some (.code aO4):=rfl
theorem MV:tab 354=some (.code WZ):=rfl
theorem MW:tab 355=some (.code W0):=rfl
theorem MX:tab 356=some (.code W3):=rfl
theorem aHK:tab 357=some (.code aO5):=rfl
theorem aHL:tab 358=some (.code aO6):=rfl
theorem aHM:tab 361=some (.code aO7):=rfl
theorem aHN:tab 365=some (.code aO8):=rfl
theorem aHO:tab 366=some (.code aO9):=rfl
theorem aHP:tab 367=some (.code aPa):=rfl
theorem aHQ:tab 368=some (.code aPb):=rfl
theorem aHR:tab 369=some (.code aPc):=rfl
theorem aHS:tab 370=some (.code aPd):=rfl
theorem aHT:tab 371=some (.code aPe):=rfl
theorem aHU:tab 372=some (.code aPf):=rfl
theorem aHV:tab 373=some (.code aPg):=rfl
theorem aHW:tab 374=some (.code aPh):=rfl
theorem aHX:tab 375=some (.code aPi):=rfl
theorem aHY:tab 376=some (.code aPj):=rfl
theorem aHZ:tab 377=some (.code aPk):=rfl
theorem aH0:tab 378=some (.code aPl):=rfl
theorem aH1:tab 379=some (.code aPm):=rfl
theorem aH2:tab 380=some (.code aPn):=rfl
theorem aH3:tab 381=some (.code aPo):=rfl
theorem aH4:tab 382=some (.code aPp):=rfl
theorem MY:tab 383=some (.code W4):=rfl
theorem UM:tab 384=some (.code aPq):=rfl
theorem aH5:tab 385=some (.code aPr):=rfl
theorem UN:tab 386=some (.code aEK):=rfl
theorem aH6:tab 387=some (.code aPs):=rfl
theorem UO:tab 388=some (.code aEN):=rfl
theorem aH7:tab 389=some (.code aPt):=rfl
theorem aH8:tab 390=some (.code aPu):=rfl
theorem aH9:tab 391=some (.code aPv):=rfl
theorem aIa:tab 393=some (.code aPw):=rfl
theorem aIb:tab 394=some (.code aPx):=rfl
theorem aIc:tab 395=some (.code aPy):=rfl
theorem MZ:tab 397=some (.code aPz):=rfl
theorem aId:tab 398=some (.code aPA):=rfl
theorem UP:tab 399=some (.code aPB):=rfl
theorem M0:tab 400=some (.code aPC):=rfl
theorem aIe:tab 401=some (.code aPD):=rfl
theorem aIf:tab 402=some (.code aPE):=rfl
theorem aIg:tab 403=some (.code aPF):=rfl
theorem aIh:tab 404=some (.code aPG):=rfl
theorem aIi:tab 405=some (.code aPH):=rfl
theorem aIj:tab 406=some (.code aPI):=rfl
theorem aIk:tab 407=some (.code aPJ):=rfl
theorem UQ:tab 408=some (.code aPK):=rfl
theorem aIl:tab 409=some (.code aPL):=rfl
theorem aIm:tab 410=some (.code aPM):=rfl
theorem UR:tab 411=some (.code ZQ):=rfl
theorem aIn:tab 412=some (.prim false yG):=rfl
theorem aIo:tab 413=some (.code aPN):=rfl
theorem aIp:tab 414=some (.code aPO):=rfl
theorem aIq:tab 415=some (.code aPP):=rfl
theorem aIr:tab 416=some (.code aPQ):=rfl
theorem aIs:tab 417=some (.code aPR):=rfl
theorem aIt:tab 418=some (.prim false (dM 1)):=rfl
end Go.Proofs.YtclphlgnjkajbaaGreat
